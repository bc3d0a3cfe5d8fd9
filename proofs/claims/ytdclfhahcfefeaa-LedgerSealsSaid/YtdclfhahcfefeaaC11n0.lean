import Derived.Test.YtdclfhahcfefeaaK11
namespace Go.Proofs.Ytdclfhahcfefeaa.Q
set_option linter.unusedVariables false
set_option linter.unusedSimpArgs false

/-! ### Rows -/

theorem tk_succ {α : Type} {z : α} {l : List α} {k : Nat} (hk : k < l.length) : l.take (k + 1) = l.take k ++ [l.getD k z] := by
  rw [List.take_add_one, List.getD_eq_getElem?_getD, List.getElem?_eq_getElem hk]; rfl
theorem all_succ {P : Nat → Prop} {k : Nat} (h : ∀ j, j < k → P j) (hk : P k) : ∀ j, j < k + 1 → P j := fun j hj => by
  rcases Nat.lt_or_ge j k with h1 | h1
  · exact h j h1
  · obtain rfl : j = k := by omega
    exact hk
theorem rows_eq {α : Type} {a b : List α} {z : α} {k : Nat} (hl : a.length = b.length) (hk : a.length ≤ k) (h : ∀ j, j < k → a.getD j z = b.getD j z) : a = b := by
  apply List.ext_getElem hl
  intro j h1 h2
  have := h j (by omega)
  simpa [List.getD_eq_getElem?_getD, List.getElem?_eq_getElem h1, List.getElem?_eq_getElem h2] using this
theorem getD_mem {α : Type} {l : List α} {z : α} {k : Nat} (hk : k < l.length) : l.getD k z ∈ l := by
  rw [List.getD_eq_getElem?_getD, List.getElem?_eq_getElem hk]
  exact List.getElem_mem hk
theorem mem_get {α : Type} {l : List α} {z e : α} {k : Nat} (hk : k < l.length) (h : l.getD k z = e) : e ∈ l := h ▸ getD_mem hk
theorem not_mem_get {α : Type} {l : List α} {z e : α} {k : Nat} (hk : l.length ≤ k) (h : ∀ j, j < k → ¬ l.getD j z = e) : ¬ e ∈ l := fun hm => by
  obtain ⟨j, hj, rfl⟩ := List.getElem_of_mem hm
  refine h j (by omega) ?_
  rw [List.getD_eq_getElem?_getD, List.getElem?_eq_getElem hj]; rfl
theorem all_getD {α : Type} {p : α → Prop} {l : List α} {z : α} (h : ∀ x, x ∈ l → p x) (hz : p z) (k : Nat) : p (l.getD k z) := by
  rcases Nat.lt_or_ge k l.length with hk | hk
  · exact h _ (getD_mem hk)
  · rw [List.getD_eq_getElem?_getD, List.getElem?_eq_none hk]; exact hz
theorem foldl_succ {α β : Type} {f : β → α → β} {b : β} {z : α} {l : List α} {k : Nat} (hk : k < l.length) : (l.take (k + 1)).foldl f b = f ((l.take k).foldl f b) (l.getD k z) := by
  rw [tk_succ (z := z) hk, List.foldl_append]; rfl

/-! ### Few and small -/

def fewG {α : Type} (sz : α → Nat) (n m : Nat) (l : List α) : Prop := l.length ≤ n ∧ ∀ x, x ∈ l → sz x ≤ m
instance {α : Type} (sz : α → Nat) (n m : Nat) (l : List α) : Decidable (fewG sz n m l) := inferInstanceAs (Decidable (_ ∧ ∀ x, x ∈ l → sz x ≤ m))
section
variable {α : Type} {sz : α → Nat} {n m : Nat} {l : List α} {z : α} {k : Nat}
theorem fewG_no1 {c : Int} (h : ((l.length : Nat) : Int) > c) (hc : c = ((n : Nat) : Int)) : ¬ fewG sz n m l := fun h1 => by have := h1.1; omega
theorem fewG_no2 {c : Int} (hk : k < l.length) (h : ((sz (l.getD k z) : Nat) : Int) > c) (hc : c = ((m : Nat) : Int)) : ¬ fewG sz n m l := fun h1 => by
  have := h1.2 _ (getD_mem (z := z) hk)
  omega
theorem fewG_yes {c : Int} (h0 : ¬ ((l.length : Nat) : Int) > c) (hc : c = ((n : Nat) : Int)) (hk : l.length ≤ k) (h : ∀ j, j < k → sz (l.getD j z) ≤ m) : fewG sz n m l := ⟨by omega, fun x hx => by
  obtain ⟨j, hj, rfl⟩ := List.getElem_of_mem hx
  have := h j (by omega)
  rw [List.getD_eq_getElem?_getD, List.getElem?_eq_getElem hj] at this
  exact this⟩
theorem fewG_get (hf : fewG sz n m l) (hz : sz z ≤ m) (k : Nat) : sz (l.getD k z) ≤ m := all_getD hf.2 hz k
theorem mem_set {x y : α} (h : x ∈ l.set k y) : x ∈ l ∨ x = y := List.mem_or_eq_of_mem_set h
theorem fewG_set {y : α} (hf : fewG sz n m l) (hy : sz y ≤ m) : fewG sz n m (l.set k y) := ⟨by rw [List.length_set]; exact hf.1, fun x hx => by
  rcases mem_set hx with h | h
  · exact hf.2 x h
  · rw [h]; exact hy⟩
end
theorem u8_of {a b : UInt8} (h : ((a.toNat : Nat) : Int) = ((b.toNat : Nat) : Int)) : a = b := UInt8.toNat_inj.1 (by omega)
theorem u8_ne {a b : UInt8} (h : ¬ ((a.toNat : Nat) : Int) = ((b.toNat : Nat) : Int)) : ¬ a = b := fun e => h (by rw [e])
end Go.Proofs.Ytdclfhahcfefeaa.Q
namespace Go.Proofs.Ytdclfhahcfefeaa.Q
set_option linter.unusedVariables false
set_option linter.unusedSimpArgs false

/-! ### Numbers as bytes -/

/-- So many bytes of a number, the highest first. -/
def spellB (n : Nat) : Nat → List UInt8
  | 0 => []
  | j + 1 => UInt8.ofNat (n / 2 ^ (8 * j)) :: spellB n j
theorem spell_len (n : Nat) : ∀ m, (spellB n m).length = m
  | 0 => rfl
  | m + 1 => by rw [spellB, List.length_cons, spell_len n m]
theorem spell_step {n j m : Nat} {acc b : List UInt8} (he : acc ++ spellB n j = b ++ spellB n m) (hj : 0 < j) : (acc ++ [UInt8.ofNat (n / 2 ^ (8 * (j - 1)))]) ++ spellB n (j - 1) = b ++ spellB n m := by
  obtain ⟨i, rfl⟩ : ∃ i, j = i + 1 := ⟨j - 1, by omega⟩
  rw [← he, List.append_assoc]
  rfl
theorem spell_stepI {n j m : Nat} {acc b : List UInt8} (he : acc ++ spellB n j = b ++ spellB n m) (hj : 0 < j) : (acc ++ [UInt8.ofNat (n / 2 ^ (8 * (((j : Nat) : Int) - 1)).toNat)]) ++ spellB n (j - 1) = b ++ spellB n m := by
  rw [show (8 * (((j : Nat) : Int) - 1)).toNat = 8 * (j - 1) by omega]
  exact spell_step he hj
theorem spell_end {n j m : Nat} {acc b : List UInt8} (he : acc ++ spellB n j = b ++ spellB n m) (hj : j = 0) : acc = b ++ spellB n m := by
  subst hj
  rw [← he, spellB, List.append_nil]
theorem spell_lenE {n j m : Nat} {acc b : List UInt8} (he : acc ++ spellB n j = b ++ spellB n m) : acc.length + j = b.length + m := by
  have := congrArg List.length he
  simpa [spell_len] using this

/-- The number that bytes are. -/
def numL (l : List UInt8) : Nat := l.foldl (fun n b => n * 2 ^ 8 ||| b.toNat) 0
theorem or_byte (n : Nat) (b : UInt8) : n * 2 ^ 8 ||| b.toNat = n * 256 + b.toNat := by
  have h := UInt8.toNat_lt b
  rw [← Nat.shiftLeft_eq, ← Nat.shiftLeft_add_eq_or_of_lt (i := 8) (by omega), Nat.shiftLeft_eq]
theorem numL_nil : numL [] = 0 := rfl
theorem numL_snoc (l : List UInt8) (b : UInt8) : numL (l ++ [b]) = numL l * 256 + b.toNat := by
  unfold numL
  rw [List.foldl_append]
  exact or_byte _ _
theorem numL_lt' : ∀ (l : List UInt8) (a m : Nat), a < 256 ^ m → l.foldl (fun n b => n * 2 ^ 8 ||| b.toNat) a < 256 ^ (m + l.length)
  | [], a, m, h => h
  | b :: l, a, m, h => by
    rw [List.foldl_cons, or_byte, List.length_cons, show m + (l.length + 1) = (m + 1) + l.length by omega]
    refine numL_lt' l _ (m + 1) ?_
    rw [Nat.pow_succ]
    have := UInt8.toNat_lt b
    omega
theorem numL_lt (l : List UInt8) : numL l < 256 ^ l.length := by
  have := numL_lt' l 0 0 (by decide)
  rwa [Nat.zero_add] at this
theorem numL_lt8 {l : List UInt8} (h : l.length ≤ 8) : numL l < 18446744073709551616 := Nat.lt_of_lt_of_le (numL_lt l) (Nat.le_trans (Nat.pow_le_pow_right (by decide) h) (by decide))
theorem numL_lt7 {l : List UInt8} (h : l.length ≤ 7) : numL l < 72057594037927936 := Nat.lt_of_lt_of_le (numL_lt l) (Nat.le_trans (Nat.pow_le_pow_right (by decide) h) (by decide))
theorem numL_lt4 {l : List UInt8} (h : l.length ≤ 4) : numL l < 4294967296 := Nat.lt_of_lt_of_le (numL_lt l) (Nat.le_trans (Nat.pow_le_pow_right (by decide) h) (by decide))
theorem numL_take {l : List UInt8} {k : Nat} (hk : k < l.length) : numL (l.take (k + 1)) = numL (l.take k) * 2 ^ 8 ||| (l.getD k 0).toNat := by
  rw [tk_succ (z := 0) hk]
  unfold numL
  rw [List.foldl_append]
  rfl

/-- A number's bytes are the number. -/
theorem numL_spell (n : Nat) : ∀ (m : Nat) (l : List UInt8), numL (l ++ spellB n m) = numL l * 256 ^ m + n % 256 ^ m
  | 0, l => by simp [spellB, Nat.mod_one]
  | m + 1, l => by
    rw [spellB, show l ++ UInt8.ofNat (n / 2 ^ (8 * m)) :: spellB n m = (l ++ [UInt8.ofNat (n / 2 ^ (8 * m))]) ++ spellB n m by simp, numL_spell n m, numL_snoc]
    have h1 : (UInt8.ofNat (n / 2 ^ (8 * m))).toNat = n / 256 ^ m % 256 := by
      rw [UInt8.toNat_ofNat', Nat.pow_mul]
    rw [h1, Nat.pow_succ, Nat.mod_mul, Nat.add_mul, Nat.mul_assoc, Nat.mul_comm (256 ^ m) (n / 256 ^ m % 256), Nat.mul_comm 256 (256 ^ m)]
    omega
theorem num_spell {n m : Nat} (h : n < 256 ^ m) : numL (spellB n m) = n := by
  have := numL_spell n m []
  rw [List.nil_append, numL_nil, Nat.zero_mul, Nat.zero_add, Nat.mod_eq_of_lt h] at this
  exact this

/-! ### Things as bytes -/

def cntN (n : Int) : Nat := (min (max n 0) 4294967295).toNat
theorem cntN_lt (n : Int) : cntN n < 4294967296 := by unfold cntN; omega
theorem cntN_of {n : Nat} (h : n ≤ 4294967295) : cntN ((n : Nat) : Int) = n := by unfold cntN; omega
def intB (n : Int) : List UInt8 := spellB (u64 n) 8
def boolB (b : Bool) : List UInt8 := [if b then 1 else 0]
def cntB (n : Int) : List UInt8 := spellB (cntN n) 4
def bytesB (x : List UInt8) : List UInt8 := cntB ((x.length : Nat) : Int) ++ x
def bitsF (x : Nat) : Nat := if nanB x = true then 9221120237041090561 else x
def numB (x : Nat) : List UInt8 := spellB (bitsF x) 8
theorem int_len (n : Int) : (intB n).length = 8 := spell_len _ _
theorem cnt_len (n : Int) : (cntB n).length = 4 := spell_len _ _
theorem num_len (n : Nat) : (numB n).length = 8 := spell_len _ _
theorem bool_len (b : Bool) : (boolB b).length = 1 := rfl
theorem bytes_len (x : List UInt8) : (bytesB x).length = x.length + 4 := by rw [bytesB, List.length_append, cnt_len]; omega
theorem bitsF_lt {x : Nat} (h : x < 18446744073709551616) : bitsF x < 18446744073709551616 := by unfold bitsF; split <;> omega
theorem boolB_t : boolB true = [1] := rfl
theorem boolB_f : boolB false = [0] := rfl
theorem spell1 (n : Nat) : spellB n 1 = [UInt8.ofNat n] := by simp [spellB]
end Go.Proofs.Ytdclfhahcfefeaa.Q
namespace Go.Proofs.Ytdclfhahcfefeaa.Q
set_option linter.unusedVariables false
set_option linter.unusedSimpArgs false

/-! ### What a reader reads -/

/-- May so many bytes be taken, if what is asked of them is answered so? -/
def okT (rest : List UInt8) (e n m : Int) : Prop := e = 0 ∧ n ≤ ((rest.length : Nat) : Int) ∧ m = 0
instance (rest : List UInt8) (e n m : Int) : Decidable (okT rest e n m) := inferInstanceAs (Decidable (_ ∧ _ ∧ _))
def rdR (rest : List UInt8) (e n m : Int) : List UInt8 := if okT rest e n m then rest.drop n.toNat else rest
def rdE (rest : List UInt8) (e n m : Int) : Int := if e ≠ 0 then e else if n > ((rest.length : Nat) : Int) then 10 else m
theorem rdE_ok {rest : List UInt8} {e n m : Int} (h : okT rest e n m) : rdE rest e n m = 0 := by
  obtain ⟨h1, h2, h3⟩ := h
  unfold rdE
  rw [if_neg (by omega), if_neg (by omega), h3]
theorem rdE_no {rest : List UInt8} {e n m : Int} (h : ¬ okT rest e n m) : rdE rest e n m ≠ 0 := by
  unfold rdE
  split
  · assumption
  · split
    · decide
    · exact fun hm => h ⟨by omega, by omega, hm⟩
theorem rdR_ok {rest : List UInt8} {e n m : Int} (h : okT rest e n m) : rdR rest e n m = rest.drop n.toNat := if_pos h
theorem rdR_no {rest : List UInt8} {e n m : Int} (h : ¬ okT rest e n m) : rdR rest e n m = rest := if_neg h

def truthE (b : List UInt8) : Int := if ((b.getD 0 0).toNat : Int) > 1 then 12 else 0
def limE (most : Int) (b : List UInt8) : Int := if ((numL b : Nat) : Int) > max most 0 then 11 else 0
def floatE (b : List UInt8) : Int := if nanB (numL b) = true ∧ ((numL b : Nat) : Int) ≠ 9221120237041090561 then 12 else 0

def rdI (rest : List UInt8) (e : Int) : Int := if okT rest e 8 0 then toI64 (numL (rest.take 8)) else 0
def rdB (rest : List UInt8) (e : Int) : Bool := decide (okT rest e 1 (truthE (rest.take 1)) ∧ (((rest.take 1).getD 0 0).toNat : Int) = 1)
def rdC (rest : List UInt8) (e most : Int) : Nat := if okT rest e 4 (limE most (rest.take 4)) then numL (rest.take 4) else 0
def rdN (rest : List UInt8) (e : Int) : Nat := if okT rest e 8 (floatE (rest.take 8)) then numL (rest.take 8) else 0
/-- Bytes, the number ahead of them: may they be read? -/
def okY (rest : List UInt8) (e most : Int) : Prop := okT rest e 4 (limE most (rest.take 4)) ∧ numL (rest.take 4) ≤ (rest.drop 4).length
instance (rest : List UInt8) (e most : Int) : Decidable (okY rest e most) := inferInstanceAs (Decidable (_ ∧ _))
def rdY (rest : List UInt8) (e most : Int) : List UInt8 := if okY rest e most then (rest.drop 4).take (numL (rest.take 4)) else []
def rdYR (rest : List UInt8) (e most : Int) : List UInt8 := if okY rest e most then (rest.drop 4).drop (numL (rest.take 4)) else rest
def rdYE (rest : List UInt8) (e most : Int) : Int := if okT rest e 4 (limE most (rest.take 4)) then (if numL (rest.take 4) ≤ (rest.drop 4).length then 0 else 10) else rdE rest e 4 (limE most (rest.take 4))
def rdX (rest : List UInt8) (e : Int) : Int := if e = 0 ∧ ((rest.length : Nat) : Int) > 0 then 13 else e
theorem rdB_ok {rest : List UInt8} {e : Int} (h : okT rest e 1 (truthE (rest.take 1))) : rdB rest e = decide ((((rest.take 1).getD 0 0).toNat : Int) = 1) := by
  unfold rdB
  rw [decide_eq_decide]
  exact ⟨fun h1 => h1.2, fun h1 => ⟨h, h1⟩⟩
theorem rdB_no {rest : List UInt8} {e : Int} (h : ¬ okT rest e 1 (truthE (rest.take 1))) : rdB rest e = false := decide_eq_false fun h1 => h h1.1
theorem rdC_ok {rest : List UInt8} {e most : Int} (h : okT rest e 4 (limE most (rest.take 4))) : rdC rest e most = numL (rest.take 4) := if_pos h
theorem rdC_no {rest : List UInt8} {e most : Int} (h : ¬ okT rest e 4 (limE most (rest.take 4))) : rdC rest e most = 0 := if_neg h
theorem rdC_lt (rest : List UInt8) (e most : Int) : rdC rest e most < 4294967296 := by
  unfold rdC; split
  · exact numL_lt4 (by simp; omega)
  · decide
theorem rdR_len (rest : List UInt8) (e n m : Int) : (rdR rest e n m).length ≤ rest.length := by unfold rdR; split <;> simp
section
variable {rest : List UInt8} {e most : Int}
theorem okT_of {n m : Int} (h : rdE rest e n m = 0) : okT rest e n m := Classical.byContradiction fun hn => rdE_no hn h
theorem rdY_fail (h : rdE rest e 4 (limE most (rest.take 4)) ≠ 0) : rdY rest e most = [] ∧ rdYR rest e most = rest ∧ rdYE rest e most = rdE rest e 4 (limE most (rest.take 4)) ∧ rdR rest e 4 (limE most (rest.take 4)) = rest := by
  have h1 : ¬ okT rest e 4 (limE most (rest.take 4)) := fun hk => h (rdE_ok hk)
  exact ⟨if_neg fun h2 => h1 h2.1, if_neg fun h2 => h1 h2.1, if_neg h1, rdR_no h1⟩
theorem rdY_second (h : rdE rest e 4 (limE most (rest.take 4)) = 0) : okT (rdR rest e 4 (limE most (rest.take 4))) (rdE rest e 4 (limE most (rest.take 4))) ((rdC rest e most : Nat) : Int) 0 ↔ okY rest e most := by
  have h1 := okT_of h
  rw [rdR_ok h1, rdC_ok h1, h]
  show okT (rest.drop 4) 0 _ 0 ↔ _
  unfold okT okY
  constructor
  · exact fun h2 => ⟨h1, by have := h2.2.1; omega⟩
  · exact fun h2 => ⟨rfl, by have := h2.2; omega, rfl⟩
theorem rdY_ok (h : rdE rest e 4 (limE most (rest.take 4)) = 0) (h2 : okT (rdR rest e 4 (limE most (rest.take 4))) (rdE rest e 4 (limE most (rest.take 4))) ((rdC rest e most : Nat) : Int) 0) :
    rdY rest e most = (rdR rest e 4 (limE most (rest.take 4))).take (((rdC rest e most : Nat) : Int)).toNat ∧ rdYR rest e most = (rdR rest e 4 (limE most (rest.take 4))).drop (((rdC rest e most : Nat) : Int)).toNat ∧ rdYE rest e most = 0 := by
  have h1 := okT_of h
  have h3 := (rdY_second h).1 h2
  rw [rdR_ok h1, rdC_ok h1]
  refine ⟨(if_pos h3).trans rfl, (if_pos h3).trans rfl, ?_⟩
  unfold rdYE
  rw [if_pos h1, if_pos h3.2]
theorem rdY_short (h : rdE rest e 4 (limE most (rest.take 4)) = 0) (h2 : ¬ okT (rdR rest e 4 (limE most (rest.take 4))) (rdE rest e 4 (limE most (rest.take 4))) ((rdC rest e most : Nat) : Int) 0) :
    rdY rest e most = [] ∧ rdYR rest e most = rest ∧ rdYE rest e most = rdE (rdR rest e 4 (limE most (rest.take 4))) (rdE rest e 4 (limE most (rest.take 4))) ((rdC rest e most : Nat) : Int) 0 := by
  have h1 := okT_of h
  have h3 : ¬ okY rest e most := fun h4 => h2 ((rdY_second h).2 h4)
  refine ⟨if_neg h3, if_neg h3, ?_⟩
  unfold rdYE
  have h4 : ¬ numL (rest.take 4) ≤ (rest.drop 4).length := fun h5 => h3 ⟨h1, h5⟩
  rw [if_pos h1, if_neg h4, h, rdR_ok h1, rdC_ok h1]
  show (10 : Int) = rdE (rest.drop 4) 0 _ 0
  unfold rdE
  rw [if_neg (by decide), if_pos (by omega)]
end
theorem rdY_len (rest : List UInt8) (e most : Int) : (rdY rest e most).length ≤ rest.length := by unfold rdY; split <;> simp <;> omega
theorem rdYR_len (rest : List UInt8) (e most : Int) : (rdYR rest e most).length ≤ rest.length := by unfold rdYR; split <;> simp <;> omega

/-! ### What was put is read -/

theorem spell_inj {a b m : Nat} (ha : a < 256 ^ m) (hb : b < 256 ^ m) : spellB a m = spellB b m ↔ a = b :=
  ⟨fun h => by rw [← num_spell ha, ← num_spell hb, h], fun h => by rw [h]⟩
theorem cntB_inj {a b : Int} : cntB a = cntB b ↔ cntN a = cntN b := spell_inj (Nat.lt_of_lt_of_le (cntN_lt a) (by decide)) (Nat.lt_of_lt_of_le (cntN_lt b) (by decide))
theorem bytesB_app {x y p q : List UInt8} (hx : x.length ≤ 4294967295) (hy : y.length ≤ 4294967295) (h : bytesB x ++ p = bytesB y ++ q) : x = y ∧ p = q := by
  unfold bytesB at h
  rw [List.append_assoc, List.append_assoc] at h
  obtain ⟨h1, h2⟩ := List.append_inj h (by rw [cnt_len, cnt_len])
  rw [cntB_inj, cntN_of hx, cntN_of hy] at h1
  exact List.append_inj h2 h1
theorem okT_app {p r : List UInt8} {n : Nat} (h : p.length = n) : okT (p ++ r) 0 ((n : Nat) : Int) 0 := ⟨rfl, by simp; omega, rfl⟩
theorem take_app {p r : List UInt8} {n : Nat} (h : p.length = n) : (p ++ r).take n = p := by rw [List.take_append_of_le_length (by omega), List.take_of_length_le (by omega)]
theorem drop_app {p r : List UInt8} {n : Nat} (h : p.length = n) : (p ++ r).drop n = r := by rw [List.drop_append_of_le_length (by omega), List.drop_of_length_le (by omega), List.nil_append]
theorem lim_cntM {most : Int} (n : Int) (r : List UInt8) (hm : ((cntN n : Nat) : Int) ≤ most) : limE most ((cntB n ++ r).take 4) = 0 ∧ numL ((cntB n ++ r).take 4) = cntN n := by
  have h1 : numL ((cntB n ++ r).take 4) = cntN n := by rw [take_app (cnt_len n), cntB, num_spell (Nat.lt_of_lt_of_le (cntN_lt n) (by decide))]
  refine ⟨?_, h1⟩
  unfold limE
  rw [h1, if_neg (by omega)]
theorem back_cntM {most : Int} (n : Int) (r : List UInt8) (hm : ((cntN n : Nat) : Int) ≤ most) : rdC (cntB n ++ r) 0 most = cntN n ∧ rdR (cntB n ++ r) 0 4 (limE most ((cntB n ++ r).take 4)) = r ∧ rdE (cntB n ++ r) 0 4 (limE most ((cntB n ++ r).take 4)) = 0 := by
  obtain ⟨h0, h1⟩ := lim_cntM n r hm
  have hk : okT (cntB n ++ r) 0 4 (limE most ((cntB n ++ r).take 4)) := by rw [h0]; exact okT_app (cnt_len n)
  refine ⟨by rw [rdC_ok hk, h1], ?_, rdE_ok hk⟩
  rw [rdR_ok hk]; exact drop_app (cnt_len n)
theorem back_bytesM {most : Int} {x : List UInt8} (hx : x.length ≤ 4294967295) (r : List UInt8) (hm : ((x.length : Nat) : Int) ≤ most) : rdY (bytesB x ++ r) 0 most = x ∧ rdYR (bytesB x ++ r) 0 most = r ∧ rdYE (bytesB x ++ r) 0 most = 0 := by
  have e : bytesB x ++ r = cntB ((x.length : Nat) : Int) ++ (x ++ r) := by rw [bytesB, List.append_assoc]
  rw [e]
  obtain ⟨h0, h1⟩ := lim_cntM (most := most) ((x.length : Nat) : Int) (x ++ r) (by rw [cntN_of hx]; exact hm)
  rw [cntN_of hx] at h1
  have hk : okT (cntB ((x.length : Nat) : Int) ++ (x ++ r)) 0 4 (limE most ((cntB ((x.length : Nat) : Int) ++ (x ++ r)).take 4)) := by rw [h0]; exact okT_app (cnt_len _)
  have hd : (cntB ((x.length : Nat) : Int) ++ (x ++ r)).drop 4 = x ++ r := drop_app (cnt_len _)
  have hle : numL ((cntB ((x.length : Nat) : Int) ++ (x ++ r)).take 4) ≤ ((cntB ((x.length : Nat) : Int) ++ (x ++ r)).drop 4).length := by rw [h1, hd]; simp
  have hy : okY (cntB ((x.length : Nat) : Int) ++ (x ++ r)) 0 most := ⟨hk, hle⟩
  refine ⟨?_, ?_, ?_⟩
  · rw [rdY, if_pos hy, h1, hd]; exact take_app rfl
  · rw [rdYR, if_pos hy, h1, hd]; exact drop_app rfl
  · rw [rdYE, if_pos hk, if_pos hle]

/-! ### What is read was put -/

theorem numL_append (q : List UInt8) : ∀ (r : List UInt8), numL (q ++ r) = numL q * 256 ^ r.length + numL r := by
  have key : ∀ (r q : List UInt8), numL (q ++ r) = numL q * 256 ^ r.length + numL r := by
    intro r
    induction r with
    | nil => intro q; simp [numL]
    | cons x r ih =>
      intro q
      have e1 : numL (q ++ x :: r) = numL ((q ++ [x]) ++ r) := by simp
      have e2 : numL (x :: r) = numL (([] ++ [x]) ++ r) := by simp
      rw [e1, e2, ih, ih, numL_snoc, numL_snoc, numL_nil, List.length_cons, Nat.pow_succ]
      rw [Nat.add_mul, Nat.add_mul, Nat.mul_assoc, Nat.mul_comm 256 (256 ^ r.length)]
      omega
  exact fun r => key r q
theorem spell_num : ∀ (b p : List UInt8), spellB (numL (p ++ b)) b.length = b
  | [], _ => rfl
  | x :: r, p => by
    have e1 : p ++ x :: r = (p ++ [x]) ++ r := by simp
    rw [List.length_cons, spellB, e1, spell_num r (p ++ [x]), numL_append (p ++ [x]) r]
    have h := numL_lt r
    have hp : 2 ^ (8 * r.length) = 256 ^ r.length := by rw [Nat.pow_mul]
    rw [hp, Nat.mul_comm, Nat.mul_add_div (Nat.pow_pos (by decide)), Nat.div_eq_of_lt h, Nat.add_zero, numL_snoc]
    congr 1
    apply UInt8.toNat_inj.1
    rw [UInt8.toNat_ofNat']
    have := UInt8.toNat_lt x
    omega
theorem cnt_num {b : List UInt8} (h : b.length = 4) : cntB ((numL b : Nat) : Int) = b := by
  have h1 := numL_lt4 (l := b) (by omega)
  unfold cntB
  rw [cntN_of (by omega), ← h]
  exact spell_num b []
/-- Bytes that were read stand there. -/
theorem read_bytes {rest : List UInt8} {e most : Int} (h : rdYE rest e most = 0) : e = 0 ∧ rest = bytesB (rdY rest e most) ++ rdYR rest e most ∧ (rdY rest e most).length ≤ 4294967295 := by
  unfold rdYE at h
  by_cases h1 : okT rest e 4 (limE most (rest.take 4))
  · rw [if_pos h1] at h
    by_cases h2 : numL (rest.take 4) ≤ (rest.drop 4).length
    · have hy : okY rest e most := ⟨h1, h2⟩
      have h4 : (rest.take 4).length = 4 := by have := h1.2.1; rw [List.length_take]; omega
      have hl : ((rest.drop 4).take (numL (rest.take 4))).length = numL (rest.take 4) := by rw [List.length_take]; omega
      refine ⟨h1.1, ?_, ?_⟩
      · rw [rdY, if_pos hy, rdYR, if_pos hy, bytesB, hl, cnt_num h4, List.append_assoc, List.take_append_drop, List.take_append_drop]
      · rw [rdY, if_pos hy, hl]; have := numL_lt4 (l := rest.take 4) (by omega); omega
    · rw [if_neg h2] at h; cases h
  · rw [if_neg h1] at h
    exact absurd h (rdE_no h1)
theorem read_cnt {rest : List UInt8} {e most : Int} (h : rdE rest e 4 (limE most (rest.take 4)) = 0) : e = 0 ∧ rest = cntB ((rdC rest e most : Nat) : Int) ++ rdR rest e 4 (limE most (rest.take 4)) ∧ ((rdC rest e most : Nat) : Int) ≤ max most 0 := by
  have h1 := okT_of h
  have h4 : (rest.take 4).length = 4 := by have := h1.2.1; rw [List.length_take]; omega
  refine ⟨h1.1, ?_, ?_⟩
  · rw [rdC_ok h1, rdR_ok h1, cnt_num h4]
    exact (List.take_append_drop 4 rest).symm
  · rw [rdC_ok h1]
    have h3 := h1.2.2
    unfold limE at h3
    split at h3
    · cases h3
    · omega
end Go.Proofs.Ytdclfhahcfefeaa.Q
namespace Go.Proofs.Ytdclfhahcfefeaa.Q
set_option linter.unusedVariables false
set_option linter.unusedSimpArgs false

/-! ### Digests -/

def szP (l : List (List UInt8)) : Nat := l.foldl (fun n p => n + (4 + p.length)) 5
theorem szP_ge (l : List (List UInt8)) : ∀ n, n ≤ l.foldl (fun n p => n + (4 + p.length)) n := by
  induction l with
  | nil => exact fun n => Nat.le_refl _
  | cons p r ih => exact fun n => Nat.le_trans (show n ≤ n + (4 + p.length) by omega) (ih _)
theorem szP_take (l : List (List UInt8)) (k : Nat) : szP (l.take k) ≤ szP l := by
  have h : szP l = (l.drop k).foldl (fun n p => n + (4 + p.length)) (szP (l.take k)) := by
    unfold szP
    rw [← List.foldl_append, List.take_append_drop]
  rw [h]
  exact szP_ge _ _
theorem szP_succ {l : List (List UInt8)} {k : Nat} (hk : k < l.length) : szP (l.take (k + 1)) = szP (l.take k) + (4 + (l.getD k []).length) := foldl_succ hk
theorem szP_len (l : List (List UInt8)) : ∀ n, n + 4 * l.length ≤ l.foldl (fun n p => n + (4 + p.length)) n := by
  induction l with
  | nil => exact fun n => by simp
  | cons p r ih => exact fun n => by have := ih (n + (4 + p.length)); simp only [List.foldl_cons, List.length_cons]; omega
theorem szP_count (l : List (List UInt8)) : l.length ≤ szP l := by have := szP_len l 5; unfold szP; omega

def partsB (l : List (List UInt8)) : List UInt8 := l.flatMap bytesB
def ofR (t : UInt8) (n : Nat) (l : List (List UInt8)) : List UInt8 := [t] ++ cntB ((n : Nat) : Int) ++ partsB l
def ofB (t : UInt8) (l : List (List UInt8)) : List UInt8 := ofR t l.length l
theorem ofR_len (t : UInt8) (n : Nat) (l : List (List UInt8)) : (ofR t n l).length = szP l := by
  have h : ∀ (l : List (List UInt8)) (n : Nat), l.foldl (fun n p => n + (4 + p.length)) n = n + (partsB l).length := by
    intro l
    induction l with
    | nil => intro n; simp [partsB]
    | cons p r ih =>
      intro n
      have e : partsB (p :: r) = bytesB p ++ partsB r := rfl
      rw [List.foldl_cons, ih, e, List.length_append, bytes_len]
      omega
  unfold szP
  rw [h, ofR, List.length_append, List.length_append, cnt_len]
  simp
theorem ofB_len (t : UInt8) (l : List (List UInt8)) : (ofB t l).length = szP l := ofR_len _ _ _
theorem ofR_succ {t : UInt8} {n k : Nat} {l : List (List UInt8)} (hk : k < l.length) : ofR t n (l.take (k + 1)) = ofR t n (l.take k) ++ bytesB (l.getD k []) := by
  rw [tk_succ (z := []) hk]
  simp [ofR, partsB, List.flatMap_append]
theorem ofR_all (t : UInt8) (l : List (List UInt8)) : ofR t l.length (l.take l.length) = ofB t l := by rw [List.take_length]; rfl

/-! ### Opening -/

structure OpS where
  rest : List UInt8
  e : Int
  ps : List (List UInt8)
def stepO (most : Int) (s : OpS) : OpS := ⟨rdYR s.rest s.e most, rdYE s.rest s.e most, s.ps ++ [rdY s.rest s.e most]⟩
def startO (d : List UInt8) : OpS := ⟨rdR (d.drop 1) 0 4 (limE ((d.length : Nat) : Int) ((d.drop 1).take 4)), rdE (d.drop 1) 0 4 (limE ((d.length : Nat) : Int) ((d.drop 1).take 4)), []⟩
def cntO (d : List UInt8) : Nat := rdC (d.drop 1) 0 ((d.length : Nat) : Int)
def runO (d : List UInt8) : Nat → OpS
  | 0 => startO d
  | k + 1 => stepO ((d.length : Nat) : Int) (runO d k)
def finO (d : List UInt8) : OpS := runO d (cntO d)
/-- Is it a digest? -/
def okO (d : List UInt8) : Prop := d ≠ [] ∧ rdX (finO d).rest (finO d).e = 0
instance (d : List UInt8) : Decidable (okO d) := inferInstanceAs (Decidable (_ ∧ _))
def opT (d : List UInt8) : UInt8 := if okO d then d.getD 0 0 else 0
def opP (d : List UInt8) : List (List UInt8) := if okO d then (finO d).ps else []
theorem runO_rest (d : List UInt8) : ∀ k, (runO d k).rest.length ≤ d.length
  | 0 => Nat.le_trans (rdR_len (d.drop 1) 0 4 (limE ((d.length : Nat) : Int) ((d.drop 1).take 4))) (by simp)
  | k + 1 => Nat.le_trans (rdYR_len _ _ _) (runO_rest d k)
theorem runO_ps (d : List UInt8) : ∀ k, (runO d k).ps.length = k
  | 0 => rfl
  | k + 1 => by simp [runO, stepO, runO_ps d k]
theorem rdC_le (rest : List UInt8) (e most : Int) (hm : 0 ≤ most) : ((rdC rest e most : Nat) : Int) ≤ most := by
  unfold rdC
  split
  · rename_i h
    have h3 := h.2.2
    unfold limE at h3
    split at h3
    · cases h3
    · omega
  · omega
theorem cntO_le (d : List UInt8) : cntO d ≤ d.length := by have := rdC_le (d.drop 1) 0 ((d.length : Nat) : Int) (by omega); unfold cntO; omega
end Go.Proofs.Ytdclfhahcfefeaa.Q
namespace Go.Proofs.Ytdclfhahcfefeaa.Q
set_option linter.unusedVariables false
set_option linter.unusedSimpArgs false

def szL (x : List UInt8) : Nat := x.length
theorem few_szP {l : List (List UInt8)} (hf : fewG szL 100 2000 l) : szP l ≤ 300000 := by
  have h : ∀ (l : List (List UInt8)) (n : Nat), (∀ x, x ∈ l → x.length ≤ 2000) → l.foldl (fun n p => n + (4 + p.length)) n ≤ n + 2004 * l.length := by
    intro l
    induction l with
    | nil => intro n _; simp
    | cons p r ih =>
      intro n hx
      have h1 := ih (n + (4 + p.length)) fun x hm => hx x (List.mem_cons_of_mem _ hm)
      have h2 := hx p (List.mem_cons_self ..)
      simp only [List.foldl_cons, List.length_cons]
      omega
  have := h l 5 hf.2
  have := hf.1
  unfold szP
  omega
theorem szP_mem {l : List (List UInt8)} {x : List UInt8} (h : x ∈ l) : x.length ≤ szP l := by
  have key : ∀ (l : List (List UInt8)) (n : Nat), x ∈ l → x.length ≤ l.foldl (fun n p => n + (4 + p.length)) n := by
    intro l
    induction l with
    | nil => intro n h; cases h
    | cons p r ih =>
      intro n h
      cases h with
      | head => exact Nat.le_trans (show x.length ≤ n + (4 + x.length) by omega) (szP_ge r _)
      | tail _ h => exact ih _ h
  exact key l 5 h

/-! ### Opened again -/

theorem run_of {t : UInt8} {l : List (List UInt8)} (hl : szP l ≤ 4294967295) : cntO (ofB t l) = l.length ∧ ∀ k, k ≤ l.length → runO (ofB t l) k = ⟨partsB (l.drop k), 0, l.take k⟩ := by
  have hlen := ofB_len t l
  have hcnt := szP_count l
  have hd : (ofB t l).drop 1 = cntB ((l.length : Nat) : Int) ++ partsB l := rfl
  have hc := cntN_of (n := l.length) (by omega)
  obtain ⟨c1, c2, c3⟩ := back_cntM (most := (((ofB t l).length : Nat) : Int)) ((l.length : Nat) : Int) (partsB l) (by rw [hc]; omega)
  refine ⟨by rw [cntO, hd, c1, hc], fun k => ?_⟩
  induction k with
  | zero =>
    intro _
    show startO _ = _
    unfold startO
    rw [hd, c2, c3]
    rfl
  | succ k ih =>
    intro hk
    have e : partsB (l.drop k) = bytesB (l.getD k []) ++ partsB (l.drop (k + 1)) := by
      unfold partsB
      rw [List.drop_eq_getElem_cons (by omega), List.flatMap_cons, List.getD_eq_getElem?_getD, List.getElem?_eq_getElem (by omega)]
      rfl
    have hm : (l.getD k []).length ≤ szP l := szP_mem (getD_mem (by omega))
    obtain ⟨b1, b2, b3⟩ := back_bytesM (most := (((ofB t l).length : Nat) : Int)) (x := l.getD k []) (by omega) (partsB (l.drop (k + 1))) (by omega)
    show stepO _ (runO _ k) = _
    rw [ih (by omega)]
    unfold stepO
    rw [e, b1, b2, b3, tk_succ (z := []) (by omega)]
theorem open_of {t : UInt8} {l : List (List UInt8)} (hl : szP l ≤ 4294967295) : okO (ofB t l) ∧ opT (ofB t l) = t ∧ opP (ofB t l) = l := by
  obtain ⟨h1, h2⟩ := run_of (t := t) hl
  have hf : finO (ofB t l) = ⟨[], 0, l⟩ := by
    unfold finO
    rw [h1, h2 _ (Nat.le_refl _), List.drop_length, List.take_length]
    rfl
  have hok : okO (ofB t l) := ⟨by intro h; have := ofB_len t l; rw [h] at this; have := szP_count l; simp [szP] at *; have := szP_ge l 5; omega, by rw [hf]; rfl⟩
  refine ⟨hok, (if_pos hok).trans rfl, (if_pos hok).trans (by rw [hf])⟩
theorem ofB_inj {s t : UInt8} {l m : List (List UInt8)} (hl : szP l ≤ 4294967295) (hm : szP m ≤ 4294967295) : ofB s l = ofB t m ↔ s = t ∧ l = m := by
  constructor
  · intro h
    obtain ⟨_, a1, a2⟩ := open_of (t := s) hl
    obtain ⟨_, b1, b2⟩ := open_of (t := t) hm
    rw [h] at a1 a2
    exact ⟨a1.symm.trans b1, a2.symm.trans b2⟩
  · rintro ⟨rfl, rfl⟩; rfl

/-- What is opened is what it was made of. -/
theorem of_open {d : List UInt8} (h : okO d) : ofB (opT d) (opP d) = d := by
  obtain ⟨hne, hx⟩ := h
  have hX : (finO d).e = 0 ∧ (finO d).rest = [] := by
    unfold rdX at hx
    split at hx
    · cases hx
    · rename_i h1
      refine ⟨hx, ?_⟩
      cases hr : (finO d).rest with
      | nil => rfl
      | cons a r => exact absurd ⟨hx, by rw [hr]; simp <;> omega⟩ h1
  have hrun : ∀ k, (runO d k).e = 0 → (startO d).e = 0 ∧ (startO d).rest = partsB (runO d k).ps ++ (runO d k).rest := by
    intro k
    induction k with
    | zero => exact fun h => ⟨h, rfl⟩
    | succ k ih =>
      intro h
      obtain ⟨r1, r2, _⟩ := read_bytes (rest := (runO d k).rest) (e := (runO d k).e) (most := ((d.length : Nat) : Int)) h
      obtain ⟨i1, i2⟩ := ih r1
      refine ⟨i1, ?_⟩
      rw [i2]
      show _ = partsB ((runO d k).ps ++ [rdY _ _ _]) ++ rdYR _ _ _
      have e : partsB ((runO d k).ps ++ [rdY (runO d k).rest (runO d k).e ((d.length : Nat) : Int)]) = partsB (runO d k).ps ++ bytesB (rdY (runO d k).rest (runO d k).e ((d.length : Nat) : Int)) := by
        simp [partsB, List.flatMap_append]
      rw [e, List.append_assoc, ← r2]
  obtain ⟨s1, s2⟩ := hrun (cntO d) hX.1
  obtain ⟨_, c2, c3⟩ := read_cnt (rest := d.drop 1) (e := 0) (most := ((d.length : Nat) : Int)) s1
  have hps : (finO d).ps.length = cntO d := runO_ps d _
  have hT : opT d = d.getD 0 0 := if_pos ⟨hne, hx⟩
  have hP : opP d = (finO d).ps := if_pos ⟨hne, hx⟩
  have hr : (startO d).rest = partsB (finO d).ps := by
    rw [s2]
    show partsB (finO d).ps ++ (finO d).rest = _
    rw [hX.2, List.append_nil]
  have hd : d = d.getD 0 0 :: d.drop 1 := by cases d with
    | nil => exact absurd rfl hne
    | cons a r => rfl
  rw [hT, hP]
  conv => rhs; rw [hd, c2]
  show ofB _ _ = d.getD 0 0 :: (cntB ((cntO d : Nat) : Int) ++ (startO d).rest)
  rw [hr, ofB, hps]
  rfl

/-! ### Digests of digests -/

theorem leaf_len (s : UInt8) (a : List UInt8) : (ofB s [a]).length = 9 + a.length := by rw [ofB_len]; show 5 + (4 + a.length) = _; omega
theorem pair_len (s : UInt8) (a b : List UInt8) : (ofB s [a, b]).length = 13 + a.length + b.length := by rw [ofB_len]; show 5 + (4 + a.length) + (4 + b.length) = _; omega
theorem leaf_inj {s t : UInt8} {a b : List UInt8} (ha : a.length ≤ 1000000) (hb : b.length ≤ 1000000) : ofB s [a] = ofB t [b] ↔ s = t ∧ a = b := by
  rw [ofB_inj (by show 5 + (4 + a.length) ≤ _; omega) (by show 5 + (4 + b.length) ≤ _; omega)]
  simp
theorem pair_inj {s t : UInt8} {a b c d : List UInt8} (h1 : a.length ≤ 1000000000) (h2 : b.length ≤ 1000000000) (h3 : c.length ≤ 1000000000) (h4 : d.length ≤ 1000000000) : ofB s [a, b] = ofB t [c, d] ↔ s = t ∧ a = c ∧ b = d := by
  rw [ofB_inj (by show 5 + (4 + a.length) + (4 + b.length) ≤ _; omega) (by show 5 + (4 + c.length) + (4 + d.length) ≤ _; omega)]
  simp
theorem nests {s t : UInt8} {a b : List UInt8} (ha : a.length ≤ 2000) (hb : b.length ≤ 2000) : ofB t [ofB s [a], ofB s [b]] = ofB t [ofB s [b], ofB s [a]] ↔ a = b := by
  have h1 := leaf_len s a
  have h2 := leaf_len s b
  rw [pair_inj (by omega) (by omega) (by omega) (by omega), leaf_inj (by omega) (by omega), leaf_inj (by omega) (by omega)]
  exact ⟨fun h => h.2.1.2, fun h => ⟨rfl, ⟨rfl, h⟩, ⟨rfl, h.symm⟩⟩⟩
theorem open_pair {t : UInt8} {a b : List UInt8} (ha : a.length ≤ 1000000000) (hb : b.length ≤ 1000000000) : okO (ofB t [a, b]) ∧ opT (ofB t [a, b]) = t ∧ opP (ofB t [a, b]) = [a, b] := open_of (by show 5 + (4 + a.length) + (4 + b.length) ≤ _; omega)
theorem opP_len {d : List UInt8} (hd : d.length ≤ 20000) : (opP d).length ≤ 9223372036854775807 := by
  unfold opP
  split
  · show (runO d (cntO d)).ps.length ≤ _
    rw [runO_ps]
    have := cntO_le d
    omega
  · simp
end Go.Proofs.Ytdclfhahcfefeaa.Q
namespace Go.Proofs.Ytdclfhahcfefeaa.Q
set_option linter.unusedVariables false
set_option linter.unusedSimpArgs false
set_option maxRecDepth 100000

abbrev Lv := List (List UInt8)

theorem tmod_bd {a b : Int} (hb : 0 < b) : -b < a.tmod b ∧ a.tmod b < b := by
  have h1 := Int.tmod_lt_of_pos a hb
  refine ⟨?_, h1⟩
  have h2 := Int.tmod_lt_of_pos (-a) hb
  rw [Int.neg_tmod] at h2
  omega
theorem fewG_mono {α : Type} {sz : α → Nat} {n m m' : Nat} {l : List α} (h : fewG sz n m l) (hm : m ≤ m') : fewG sz n m' l := ⟨h.1, fun x hx => Nat.le_trans (h.2 x hx) hm⟩

/-! ### Powers of two below a number -/

def lenN (x : Nat) : Nat := if x = 0 then 0 else Nat.log2 x + 1
theorem lenN_pos {x : Nat} (h : 0 < x) : lenN x = Nat.log2 x + 1 := if_neg (by omega)
theorem log2_div {x s : Nat} (h : 2 ^ s ≤ x) : Nat.log2 x = s + Nat.log2 (x / 2 ^ s) := by
  have hp : 0 < 2 ^ s := Nat.pow_pos (by decide)
  have hq : x / 2 ^ s ≠ 0 := by have := Nat.div_pos h hp; omega
  have hx : x ≠ 0 := by omega
  rw [Nat.log2_eq_iff hx]
  have h1 := Nat.log2_self_le hq
  have h2 := @Nat.lt_log2_self (x / 2 ^ s)
  rw [Nat.pow_add, Nat.add_assoc, Nat.pow_add]
  have h3 := Nat.div_add_mod x (2 ^ s)
  have h4 := Nat.mod_lt x hp
  constructor
  · exact Nat.le_trans (Nat.mul_le_mul_left _ h1) (by omega)
  · have h5 : 2 ^ s * (x / 2 ^ s + 1) ≤ 2 ^ s * 2 ^ (Nat.log2 (x / 2 ^ s) + 1) := Nat.mul_le_mul_left _ h2
    rw [Nat.mul_add] at h5
    omega
theorem lenN_div {x s : Nat} (h : 2 ^ s ≤ x) : lenN x = s + lenN (x / 2 ^ s) := by
  have hp : 0 < 2 ^ s := Nat.pow_pos (by decide)
  have hq := Nat.div_pos h hp
  rw [lenN_pos (by omega), lenN_pos hq, log2_div h]
  omega
def half (n : Nat) : Nat := 2 ^ Nat.log2 (n - 1)
theorem half_lt {n : Nat} (h : 2 ≤ n) : half n < n := by
  have := Nat.log2_self_le (n := n - 1) (by omega)
  unfold half
  omega
theorem half_pos (n : Nat) : 0 < half n := Nat.pow_pos (by decide)
theorem half_ge {n : Nat} (h : 2 ≤ n) : n ≤ 2 * half n := by
  have := @Nat.lt_log2_self (n - 1)
  unfold half
  rw [Nat.pow_succ] at this
  omega
theorem half_of {n K : Nat} (hp : ∃ j, K = 2 ^ j) (h1 : K < n) (h2 : n ≤ 2 * K) : half n = K := by
  obtain ⟨j, rfl⟩ := hp
  unfold half
  have : Nat.log2 (n - 1) = j := by
    have hp : 0 < 2 ^ j := Nat.pow_pos (by decide)
    rw [Nat.log2_eq_iff (by omega), Nat.pow_succ]
    omega
  rw [this]
theorem half_sub {n : Nat} (h : 2 ≤ n) : n - half n ≤ half n := by have := half_ge h; omega
theorem half_le_pow {n f : Nat} (h : n ≤ 2 ^ (f + 1)) (h2 : 2 ≤ n) : half n ≤ 2 ^ f := by
  unfold half
  have h1 : Nat.log2 (n - 1) < f + 1 := (Nat.log2_lt (by omega)).2 (by omega)
  exact Nat.pow_le_pow_right (by decide) (by omega)

/-! ### Few leaves -/

theorem fewG_take {α : Type} {sz : α → Nat} {n m : Nat} {l : List α} (h : fewG sz n m l) (k : Nat) : fewG sz n m (l.take k) := ⟨by have := h.1; rw [List.length_take]; omega, fun x hx => h.2 x (List.mem_of_mem_take hx)⟩
theorem fewG_drop {α : Type} {sz : α → Nat} {n m : Nat} {l : List α} (h : fewG sz n m l) (k : Nat) : fewG sz n m (l.drop k) := ⟨by have := h.1; rw [List.length_drop]; omega, fun x hx => h.2 x (List.mem_of_mem_drop hx)⟩

/-! ### Roots -/

def rootF : Nat → Lv → List UInt8
  | 0, _ => ofB 4 []
  | f + 1, l => if l.length = 0 then ofB 4 [] else if l.length = 1 then ofB 2 [l.getD 0 []] else ofB 3 [rootF f (l.take (half l.length)), rootF f (l.drop (half l.length))]
def rootB (l : Lv) : List UInt8 := rootF l.length l
theorem rootF_eq : ∀ (f g : Nat) (l : Lv), l.length ≤ f → l.length ≤ g → rootF f l = rootF g l
  | 0, 0, _, _, _ => rfl
  | 0, g + 1, l, h, _ => by rw [rootF, rootF, if_pos (by omega)]
  | f + 1, 0, l, _, h => by rw [rootF, rootF, if_pos (by omega)]
  | f + 1, g + 1, l, h1, h2 => by
    rw [rootF, rootF]
    split
    · rfl
    · split
      · rfl
      · have hh := half_lt (n := l.length) (by omega)
        have hp := half_pos l.length
        rw [rootF_eq f g (l.take (half l.length)) (by rw [List.length_take]; omega) (by rw [List.length_take]; omega), rootF_eq f g (l.drop (half l.length)) (by rw [List.length_drop]; omega) (by rw [List.length_drop]; omega)]
theorem root_0 {l : Lv} (h : l.length = 0) : rootB l = ofB 4 [] := by unfold rootB; rw [h, rootF]
theorem root_1 {l : Lv} (h : l.length = 1) : rootB l = ofB 2 [l.getD 0 []] := by unfold rootB; rw [h, rootF, if_neg (by omega), if_pos h]
theorem root_2 {l : Lv} (h : 2 ≤ l.length) : rootB l = ofB 3 [rootB (l.take (half l.length)), rootB (l.drop (half l.length))] := by
  have hh := half_lt h
  have hp := half_pos l.length
  obtain ⟨f, hf⟩ : ∃ f, l.length = f + 1 := ⟨l.length - 1, by omega⟩
  unfold rootB
  rw [rootF_eq l.length (f + 1) l (by omega) (by omega), rootF, if_neg (by omega), if_neg (by omega)]
  rw [rootF_eq f _ (l.take (half l.length)) (by rw [List.length_take]; omega) (Nat.le_refl _), rootF_eq f _ (l.drop (half l.length)) (by rw [List.length_drop]; omega) (Nat.le_refl _)]
theorem root_len : ∀ (N : Nat) (l : Lv), l.length = N → 1 ≤ l.length → (∀ x, x ∈ l → x.length ≤ 600) → (rootB l).length + 13 ≤ 635 * l.length := by
  intro N
  induction N using Nat.strongRecOn with
  | _ N ih =>
    intro l hN h1 hx
    rcases Nat.lt_or_ge l.length 2 with h2 | h2
    · rw [root_1 (by omega), leaf_len]
      have := all_getD (z := []) hx (by decide) 0
      omega
    · have hh := half_lt h2
      have hp := half_pos l.length
      have h1 := ih (l.take (half l.length)).length (by rw [List.length_take]; omega) _ rfl (by rw [List.length_take]; omega) (fun x h => hx x (List.mem_of_mem_take h))
      have h3 := ih (l.drop (half l.length)).length (by rw [List.length_drop]; omega) _ rfl (by rw [List.length_drop]; omega) (fun x h => hx x (List.mem_of_mem_drop h))
      rw [root_2 h2, pair_len]
      rw [List.length_take] at h1
      rw [List.length_drop] at h3
      omega
theorem few_root {l : Lv} (hf : fewG szL 40 600 l) : (rootB l).length ≤ 25400 := by
  by_cases h0 : l.length = 0
  · rw [root_0 h0]; decide
  · have h1 := root_len _ l rfl (by omega) hf.2
    have := hf.1
    omega

/-! ### Of the code's numbers -/

def len8Tab : List UInt8 := [0, 1, 2, 2, 3, 3, 3, 3, 4, 4, 4, 4, 4, 4, 4, 4, 5, 5, 5, 5, 5, 5, 5, 5, 5, 5, 5, 5, 5, 5, 5, 5, 6, 6, 6, 6, 6, 6, 6, 6, 6, 6, 6, 6, 6, 6, 6, 6, 6, 6, 6, 6, 6, 6, 6, 6, 6, 6, 6, 6, 6, 6, 6, 6, 7, 7, 7, 7, 7, 7, 7, 7, 7, 7, 7, 7, 7, 7, 7, 7, 7, 7, 7, 7, 7, 7, 7, 7, 7, 7, 7, 7, 7, 7, 7, 7, 7, 7, 7, 7, 7, 7, 7, 7, 7, 7, 7, 7, 7, 7, 7, 7, 7, 7, 7, 7, 7, 7, 7, 7, 7, 7, 7, 7, 7, 7, 7, 7, 8, 8, 8, 8, 8, 8, 8, 8, 8, 8, 8, 8, 8, 8, 8, 8, 8, 8, 8, 8, 8, 8, 8, 8, 8, 8, 8, 8, 8, 8, 8, 8, 8, 8, 8, 8, 8, 8, 8, 8, 8, 8, 8, 8, 8, 8, 8, 8, 8, 8, 8, 8, 8, 8, 8, 8, 8, 8, 8, 8, 8, 8, 8, 8, 8, 8, 8, 8, 8, 8, 8, 8, 8, 8, 8, 8, 8, 8, 8, 8, 8, 8, 8, 8, 8, 8, 8, 8, 8, 8, 8, 8, 8, 8, 8, 8, 8, 8, 8, 8, 8, 8, 8, 8, 8, 8, 8, 8, 8, 8, 8, 8, 8, 8, 8, 8, 8, 8, 8, 8, 8, 8, 8, 8, 8, 8, 8, 8]
theorem len8_len : len8Tab.length = 256 := rfl
theorem len8_all : ∀ x, x < 256 → (len8Tab.getD x 0).toNat = lenN x := by decide +kernel
theorem len8 {x : Nat} (h : x < 256) : (len8Tab.getD (UInt8.ofNat x).toNat 0).toNat = lenN x := by
  have : (UInt8.ofNat x).toNat = x := by rw [UInt8.toNat_ofNat']; omega
  rw [this]
  exact len8_all x h
theorem log_le {n : Nat} (h : n ≤ 9223372036854775807) (h2 : 2 ≤ n) : Nat.log2 (n - 1) ≤ 62 := by
  have h1 : Nat.log2 (n - 1) < 63 := (Nat.log2_lt (by omega)).2 (by have : (2 : Nat) ^ 63 = 9223372036854775808 := (by decide); omega)
  omega
theorem shl_half {n : Nat} (h : n ≤ 9223372036854775807) (h2 : 2 ≤ n) : IntKind.i64.wrap (1 * 2 ^ Nat.log2 (n - 1)) = ((half n : Nat) : Int) := by
  have h1 := half_lt h2
  have h3 : (1 : Int) * 2 ^ Nat.log2 (n - 1) = ((half n : Nat) : Int) := by unfold half; simp
  rw [h3, IntKind.wrap_i64]
  omega

/-! ### Roots apart -/

theorem root_inj : ∀ (N : Nat) (l m : Lv), l.length = N → m.length = N → fewG szL 40 600 l → fewG szL 40 600 m → rootB l = rootB m → l = m := by
  intro N
  induction N using Nat.strongRecOn with
  | _ N ih =>
    intro l m hl hm fl fm he
    rcases Nat.lt_or_ge N 2 with h2 | h2
    · rcases Nat.eq_zero_or_pos N with h0 | h0
      · rw [List.eq_nil_of_length_eq_zero (by omega : l.length = 0), List.eq_nil_of_length_eq_zero (by omega : m.length = 0)]
      · rw [root_1 (by omega), root_1 (by omega)] at he
        have g1 := fewG_get (z := ([] : List UInt8)) fl (by decide) 0
        have g2 := fewG_get (z := ([] : List UInt8)) fm (by decide) 0
        have e := ((leaf_inj (show (l.getD 0 []).length ≤ 1000000 by have : (l.getD 0 []).length ≤ 600 := g1; omega) (show (m.getD 0 []).length ≤ 1000000 by have : (m.getD 0 []).length ≤ 600 := g2; omega)).1 he).2
        refine rows_eq (z := []) (k := 1) (by omega) (by omega) fun j hj => ?_
        obtain rfl : j = 0 := by omega
        exact e
    · have hh := half_lt h2
      have hp := half_pos N
      rw [root_2 (l := l) (by omega), root_2 (l := m) (by omega), hl, hm] at he
      have a1 := few_root (fewG_take fl (half N))
      have a2 := few_root (fewG_drop fl (half N))
      have a3 := few_root (fewG_take fm (half N))
      have a4 := few_root (fewG_drop fm (half N))
      obtain ⟨_, e1, e2⟩ := (pair_inj (by omega) (by omega) (by omega) (by omega)).1 he
      have e3 := ih (half N) hh (l.take (half N)) (m.take (half N)) (by rw [List.length_take]; omega) (by rw [List.length_take]; omega) (fewG_take fl _) (fewG_take fm _) e1
      have e4 := ih (N - half N) (by omega) (l.drop (half N)) (m.drop (half N)) (by rw [List.length_drop]; omega) (by rw [List.length_drop]; omega) (fewG_drop fl _) (fewG_drop fm _) e2
      rw [← List.take_append_drop (half N) l, ← List.take_append_drop (half N) m, e3, e4]
end Go.Proofs.Ytdclfhahcfefeaa.Q
namespace Go.Proofs.Ytdclfhahcfefeaa.Q
set_option linter.unusedVariables false
set_option linter.unusedSimpArgs false
set_option maxRecDepth 100000

/-! ### Blocks -/

abbrev zE := z_api_Envelope
abbrev zR := z_api_Result
def intsB (l : List Int) : List UInt8 := l.flatMap intB
theorem ints_succ {l : List Int} {k : Nat} (hk : k < l.length) : intsB (l.take (k + 1)) = intsB (l.take k) ++ intB (l.getD k 0) := by
  rw [tk_succ (z := 0) hk]; simp [intsB]
theorem ints_one {l : List Int} (hk : 0 < l.length) : intsB (l.take 1) = intB (l.getD 0 0) := by rw [ints_succ hk]; simp [intsB]
theorem ints_len (l : List Int) : (intsB l).length = 8 * l.length := by
  induction l with
  | nil => rfl
  | cons a r ih =>
    have : intsB (a :: r) = intB a ++ intsB r := by simp [intsB]
    rw [this, List.length_append, ih, int_len, List.length_cons]
    omega
def leafB (e : api_Envelope) (r : api_Result) : List UInt8 := intB e.f_Signer ++ bytesB e.f_Body ++ intB r.f_Code ++ intB r.f_Stage
theorem leafB_len (e : api_Envelope) (r : api_Result) : (leafB e r).length = 28 + e.f_Body.length := by
  simp only [leafB, List.length_append, int_len, bytes_len]; omega
def chkB (b : api_Block) : Int := if b.f_Height < 1 ∨ b.f_Height > 1099511627776 then 100 else if ¬ b.f_Requests.length = b.f_Results.length ∨ 4 < b.f_Results.length then 102 else 0
def leavesB (b : api_Block) : Lv := List.zipWith leafB b.f_Requests b.f_Results
theorem leaves_len (b : api_Block) : (leavesB b).length = min b.f_Requests.length b.f_Results.length := by simp [leavesB]
theorem leaves_get {b : api_Block} {k : Nat} (h1 : k < b.f_Requests.length) (h2 : k < b.f_Results.length) : (leavesB b).getD k [] = leafB (b.f_Requests.getD k z_api_Envelope) (b.f_Results.getD k z_api_Result) := by
  simp only [leavesB, List.getD_eq_getElem?_getD, List.getElem?_zipWith, List.getElem?_eq_getElem h1, List.getElem?_eq_getElem h2]
  rfl
def szE (e : api_Envelope) : Nat := e.f_Body.length
def fewB (b : api_Block) : Prop := fewG szE 20 500 b.f_Requests ∧ b.f_Results.length ≤ 20 ∧ b.f_Prev.length ≤ 10000000
instance (b : api_Block) : Decidable (fewB b) := inferInstanceAs (Decidable (_ ∧ _ ∧ _))
def smallB (b : api_Block) : Prop := fewB b ∧ b.f_Prev.length ≤ 5000
instance (b : api_Block) : Decidable (smallB b) := inferInstanceAs (Decidable (_ ∧ _))
theorem few_leaves {b : api_Block} (h : fewB b) : fewG szL 40 600 (leavesB b) := by
  obtain ⟨h1, h2, h3⟩ := h
  refine ⟨by rw [leaves_len]; omega, fun x hx => ?_⟩
  obtain ⟨k, hk, rfl⟩ := List.getElem_of_mem hx
  have hl := leaves_len b
  have hg := leaves_get (b := b) (k := k) (by omega) (by omega)
  rw [List.getD_eq_getElem?_getD, List.getElem?_eq_getElem hk] at hg
  simp only [Option.getD_some] at hg
  have hb : (b.f_Requests.getD k z_api_Envelope).f_Body.length ≤ 500 := fewG_get (sz := szE) h1 (by decide) k
  show ((leavesB b)[k]).length ≤ 600
  rw [hg, leafB_len]
  omega
def headB (b : api_Block) : api_Header := ⟨b.f_Height, b.f_Prev, (((leavesB b).length : Nat) : Int), rootB (leavesB b)⟩
def digB (h : api_Header) : List UInt8 := ofB 5 [intB h.f_Height, h.f_Prev, intB h.f_Count, h.f_Root]
def outB (b : api_Block) (k : Nat) : List UInt8 := intB b.f_Height ++ bytesB b.f_Prev ++ cntB (((leavesB b).length : Nat) : Int) ++ ((leavesB b).take k).flatten
def putB (b : api_Block) : List UInt8 := if chkB b = 0 then outB b (leavesB b).length else []
theorem out_succ {b : api_Block} {k : Nat} (hk : k < (leavesB b).length) : outB b (k + 1) = outB b k ++ (leavesB b).getD k [] := by
  unfold outB
  rw [tk_succ (z := []) hk]
  simp
theorem out_len {b : api_Block} (h : fewB b) : ∀ k, (outB b k).length ≤ 10001000 + 600 * k
  | 0 => by
    have := h.2.2
    simp only [outB, List.take_zero, List.flatten_nil, List.length_append, int_len, bytes_len, cnt_len, List.length_nil]
    omega
  | k + 1 => by
    have hr := out_len h k
    rcases Nat.lt_or_ge k (leavesB b).length with hk | hk
    · rw [out_succ hk, List.length_append]
      have : ((leavesB b).getD k []).length ≤ 600 := fewG_get (sz := szL) (few_leaves h) (by decide) k
      omega
    · have : outB b (k + 1) = outB b k := by unfold outB; rw [List.take_of_length_le hk, List.take_of_length_le (by omega)]
      rw [this]
      omega

/-- Wide blocks: of requests that were read. -/
def fewW (b : api_Block) : Prop := fewG szE 20 20000 b.f_Requests ∧ b.f_Results.length ≤ 20 ∧ b.f_Prev.length ≤ 10000000
instance (b : api_Block) : Decidable (fewW b) := inferInstanceAs (Decidable (_ ∧ _ ∧ _))
theorem few_wide {b : api_Block} (h : fewB b) : fewW b := ⟨⟨h.1.1, fun x hx => Nat.le_trans (h.1.2 x hx) (by decide)⟩, h.2⟩
theorem few_leavesW {b : api_Block} (h : fewW b) : fewG szL 40 20100 (leavesB b) := by
  obtain ⟨h1, h2, h3⟩ := h
  refine ⟨by rw [leaves_len]; omega, fun x hx => ?_⟩
  obtain ⟨k, hk, rfl⟩ := List.getElem_of_mem hx
  have hl := leaves_len b
  have hg := leaves_get (b := b) (k := k) (by omega) (by omega)
  rw [List.getD_eq_getElem?_getD, List.getElem?_eq_getElem hk] at hg
  simp only [Option.getD_some] at hg
  have hb : (b.f_Requests.getD k z_api_Envelope).f_Body.length ≤ 20000 := fewG_get (sz := szE) h1 (by decide) k
  show ((leavesB b)[k]).length ≤ 20100
  rw [hg, leafB_len]
  omega
theorem out_lenW {b : api_Block} (h : fewW b) : ∀ k, (outB b k).length ≤ 10001000 + 20100 * k
  | 0 => by
    have := h.2.2
    simp only [outB, List.take_zero, List.flatten_nil, List.length_append, int_len, bytes_len, cnt_len, List.length_nil]
    omega
  | k + 1 => by
    have hr := out_lenW h k
    rcases Nat.lt_or_ge k (leavesB b).length with hk | hk
    · rw [out_succ hk, List.length_append]
      have : ((leavesB b).getD k []).length ≤ 20100 := fewG_get (sz := szL) (few_leavesW h) (by decide) k
      omega
    · have : outB b (k + 1) = outB b k := by unfold outB; rw [List.take_of_length_le hk, List.take_of_length_le (by omega)]
      rw [this]
      omega

theorem min_nat (a b : Nat) : (min ((a : Nat) : Int) ((b : Nat) : Int)).toNat = min a b := by
  rcases Nat.le_total a b with h | h
  · rw [Int.min_eq_left (by omega), Nat.min_eq_left h]; rfl
  · rw [Int.min_eq_right (by omega), Nat.min_eq_right h]; rfl

theorem sz4 (a b c d : List UInt8) : szP [a, b, c, d] = 5 + (4 + a.length) + (4 + b.length) + (4 + c.length) + (4 + d.length) := rfl


/-! ### Rows that are filled -/

def fillL {α : Type} (z : α) (L : List α) (k : Nat) : List α := L.take k ++ List.replicate (L.length - k) z
theorem fill_0 {α : Type} (z : α) (L : List α) : fillL z L 0 = List.replicate L.length z := by simp [fillL]
theorem fill_len {α : Type} (z : α) (L : List α) (k : Nat) : (fillL z L k).length = L.length := by simp [fillL]; omega
theorem fill_set {α : Type} {z : α} {L : List α} {k : Nat} (hk : k < L.length) : (fillL z L k).set k (L.getD k z) = fillL z L (k + 1) := by
  unfold fillL
  rw [tk_succ (z := z) hk, List.append_assoc]
  have h1 : (L.take k).length = k := by rw [List.length_take]; omega
  rw [List.set_append_right _ _ (by omega), h1, Nat.sub_self]
  obtain ⟨m, hm⟩ : ∃ m, L.length - k = m + 1 := ⟨L.length - k - 1, by omega⟩
  rw [hm, show L.length - (k + 1) = m by omega]
  rfl
theorem fill_end {α : Type} {z : α} {L : List α} {k : Nat} (hk : L.length ≤ k) : fillL z L k = L := by
  unfold fillL
  rw [List.take_of_length_le hk, show L.length - k = 0 by omega]
  simp
/-! ### Leaves that are the same -/

def i64R (n : Int) : Prop := -9223372036854775808 ≤ n ∧ n ≤ 9223372036854775807
theorem intB_inj' {a b : Int} (ha : i64R a) (hb : i64R b) (h : intB a = intB b) : a = b := by
  have h1 := (spell_inj (Nat.lt_of_lt_of_le (u64_lt a) (by decide)) (Nat.lt_of_lt_of_le (u64_lt b) (by decide))).1 h
  unfold i64R at ha hb
  unfold u64 at h1
  omega
theorem leafB_inj {e f : api_Envelope} {r s : api_Result} (h1 : i64R e.f_Signer) (h2 : i64R f.f_Signer) (h3 : i64R r.f_Code) (h4 : i64R s.f_Code) (h5 : i64R r.f_Stage) (h6 : i64R s.f_Stage) (h7 : e.f_Body.length ≤ 500) (h8 : f.f_Body.length ≤ 500) (h : leafB e r = leafB f s) : e = f ∧ r = s := by
  simp only [leafB, List.append_assoc] at h
  obtain ⟨a1, a2⟩ := List.append_inj h (by rw [int_len, int_len])
  obtain ⟨b1, b2⟩ := bytesB_app (by omega) (by omega) a2
  obtain ⟨c1, c2⟩ := List.append_inj b2 (by rw [int_len, int_len])
  have d1 := intB_inj' h1 h2 a1
  have d2 := intB_inj' h3 h4 c1
  have d3 := intB_inj' h5 h6 c2
  exact ⟨(api_Envelope_iff _ _).2 ⟨d1, b1⟩, (api_Result_iff _ _).2 ⟨d2, d3⟩⟩
/-- Numbers are as great as the code's are. -/
def rangeB (b : api_Block) : Prop := i64R b.f_Height ∧ (∀ e, e ∈ b.f_Requests → i64R e.f_Signer) ∧ ∀ r, r ∈ b.f_Results → i64R r.f_Code ∧ i64R r.f_Stage
theorem head_few {b : api_Block} (h : fewB b) : (headB b).f_Prev.length ≤ 10000000 ∧ (headB b).f_Root.length ≤ 10000000 ∧ (headB b).f_Count ≤ 9223372036854775807 := by
  have h1 := h.2.2
  have h2 := few_root (few_leaves h)
  have h3 := (few_leaves h).1
  refine ⟨?_, ?_, ?_⟩
  · show b.f_Prev.length ≤ _; omega
  · show (rootB (leavesB b)).length ≤ _; omega
  · show (((leavesB b).length : Nat) : Int) ≤ _; omega
theorem chk_all {b : api_Block} (h : chkB b = 0) : b.f_Requests.length = b.f_Results.length ∧ b.f_Results.length ≤ 4 ∧ 1 ≤ b.f_Height ∧ b.f_Height ≤ 1099511627776 := by
  unfold chkB at h
  split at h
  · exact absurd h (by decide)
  · split at h
    · exact absurd h (by decide)
    · omega
theorem all_getR {α : Type} {p : α → Prop} {l : List α} {z : α} {k : Nat} (h : ∀ x, x ∈ l → p x) (hk : k < l.length) : p (l.getD k z) := h _ (getD_mem hk)
theorem digB_inj {h g : api_Header} (h1 : i64R h.f_Height) (h2 : i64R g.f_Height) (h3 : i64R h.f_Count) (h4 : i64R g.f_Count) (p1 : h.f_Prev.length ≤ 10000000) (p2 : g.f_Prev.length ≤ 10000000) (p3 : h.f_Root.length ≤ 10000000) (p4 : g.f_Root.length ≤ 10000000) (he : digB h = digB g) : h = g := by
  have e := ((ofB_inj (by rw [sz4, int_len, int_len]; omega) (by rw [sz4, int_len, int_len]; omega)).1 he).2
  simp only [List.cons.injEq, and_true] at e
  obtain ⟨e1, e2, e3, e4⟩ := e
  exact (api_Header_iff _ _).2 ⟨intB_inj' h1 h2 e1, e2, intB_inj' h3 h4 e3, e4⟩
theorem apart10 {a b : api_Block} (fa : fewB a) (fb : fewB b) (ra : rangeB a) (rb : rangeB b) (ca : chkB a = 0) (cb : chkB b = 0) : digB (headB a) = digB (headB b) ↔ a = b := by
  constructor
  · intro h
    have la := leaves_len a
    have lb := leaves_len b
    have xa := chk_all ca
    have xb := chk_all cb
    have ka := head_few fa
    have kb := head_few fb
    have e := digB_inj (h := headB a) (g := headB b) ra.1 rb.1 ⟨by show _ ≤ (((leavesB a).length : Nat) : Int); omega, ka.2.2⟩ ⟨by show _ ≤ (((leavesB b).length : Nat) : Int); omega, kb.2.2⟩ ka.1 kb.1 ka.2.1 kb.2.1 h
    have e1 : a.f_Height = b.f_Height := congrArg api_Header.f_Height e
    have e2 : a.f_Prev = b.f_Prev := congrArg api_Header.f_Prev e
    have e3 : (((leavesB a).length : Nat) : Int) = (((leavesB b).length : Nat) : Int) := congrArg api_Header.f_Count e
    have e4 : rootB (leavesB a) = rootB (leavesB b) := congrArg api_Header.f_Root e
    have e5 := root_inj _ _ _ rfl (by omega) (few_leaves fa) (few_leaves fb) e4
    have key : ∀ k, k < a.f_Requests.length → a.f_Requests.getD k z_api_Envelope = b.f_Requests.getD k z_api_Envelope ∧ a.f_Results.getD k z_api_Result = b.f_Results.getD k z_api_Result := fun k hk => by
      have g1 := leaves_get (b := a) (k := k) (by omega) (by omega)
      have g2 := leaves_get (b := b) (k := k) (by omega) (by omega)
      rw [e5, g2] at g1
      obtain ⟨r1, r2⟩ := all_getR (p := fun r => i64R r.f_Code ∧ i64R r.f_Stage) (z := z_api_Result) (k := k) ra.2.2 (by omega)
      obtain ⟨s1, s2⟩ := all_getR (p := fun r => i64R r.f_Code ∧ i64R r.f_Stage) (z := z_api_Result) (k := k) rb.2.2 (by omega)
      have := leafB_inj (all_getR (p := fun e => i64R e.f_Signer) (z := z_api_Envelope) (k := k) rb.2.1 (by omega)) (all_getR (p := fun e => i64R e.f_Signer) (z := z_api_Envelope) (k := k) ra.2.1 (by omega)) s1 r1 s2 r2 (fewG_get (sz := szE) fb.1 (by decide) k) (fewG_get (sz := szE) fa.1 (by decide) k) g1
      exact ⟨this.1.symm, this.2.symm⟩
    exact (api_Block_iff _ _).2 ⟨e1, e2, rows_eq (z := z_api_Envelope) (k := a.f_Requests.length) (by omega) (Nat.le_refl _) fun k hk => (key k hk).1, rows_eq (z := z_api_Result) (k := a.f_Results.length) (by omega) (Nat.le_refl _) fun k hk => (key k (by omega)).2⟩
  · intro h; rw [h]
end Go.Proofs.Ytdclfhahcfefeaa.Q
