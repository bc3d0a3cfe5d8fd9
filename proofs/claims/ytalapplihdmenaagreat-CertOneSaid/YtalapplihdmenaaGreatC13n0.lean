import Derived.Test.YtalapplihdmenaaGreatK13
namespace Go.Proofs.YtalapplihdmenaaGreat.Q
set_option linter.unusedVariables false
set_option linter.unusedSimpArgs false
def i64R (n : Int) : Prop := -9223372036854775808 ≤ n ∧ n ≤ 9223372036854775807
theorem tk_succ {α : Type} {z : α} {l : List α} {k : Nat} (hk : k < l.length) : l.take (k + 1) = l.take k ++ [l.getD k z] := by
  rw [List.take_add_one, List.getD_eq_getElem?_getD, List.getElem?_eq_getElem hk]; rfl
theorem all_succ {P : Nat → Prop} {k : Nat} (h : ∀ j, j < k → P j) (hk : P k) : ∀ j, j < k + 1 → P j := fun j hj => by
  rcases Nat.lt_or_ge j k with h1 | h1
  · exact h j h1
  · obtain rfl : j = k := by omega
    exact hk
theorem getD_mem {α : Type} {l : List α} {z : α} {k : Nat} (hk : k < l.length) : l.getD k z ∈ l := by
  rw [List.getD_eq_getElem?_getD, List.getElem?_eq_getElem hk]
  exact List.getElem_mem hk
theorem mem_get {α : Type} {l : List α} {z e : α} {k : Nat} (hk : k < l.length) (h : l.getD k z = e) : e ∈ l := h ▸ getD_mem hk
theorem not_mem_get {α : Type} {l : List α} {z e : α} {k : Nat} (hk : l.length ≤ k) (h : ∀ j, j < k → ¬ l.getD j z = e) : ¬ e ∈ l := fun hm => by
  obtain ⟨j, hj, rfl⟩ := List.getElem_of_mem hm
  refine h j (by omega) ?_
  rw [List.getD_eq_getElem?_getD, List.getElem?_eq_getElem hj]; rfl
theorem foldl_succ {α β : Type} {f : β → α → β} {b : β} {z : α} {l : List α} {k : Nat} (hk : k < l.length) : (l.take (k + 1)).foldl f b = f ((l.take k).foldl f b) (l.getD k z) := by
  rw [tk_succ (z := z) hk, List.foldl_append]; rfl
section
variable {α : Type} {sz : α → Nat} {n m : Nat} {l : List α} {z : α} {k : Nat}
end
end Go.Proofs.YtalapplihdmenaaGreat.Q
namespace Go.Proofs.YtalapplihdmenaaGreat.Q
set_option linter.unusedVariables false
set_option linter.unusedSimpArgs false
def spellB (n : Nat) : Nat → List UInt8
  | 0 => []
  | j + 1 => UInt8.ofNat (n / 2 ^ (8 * j)) :: spellB n j
theorem spell_len (n : Nat) : ∀ m, (spellB n m).length = m
  | 0 => rfl
  | m + 1 => by rw [spellB, List.length_cons, spell_len n m]
theorem spell_step {n j m : Nat} {acc b : List UInt8} (he : acc ++ spellB n j = b ++ spellB n m) (hj : 0 < j) : (acc ++ [UInt8.ofNat (n / 2 ^ (8 * (j - 1)))]) ++ spellB n (j - 1) = b ++ spellB n m := by
  obtain ⟨i, rfl⟩ : ∃ i, j = i + 1 := ⟨j - 1, by omega⟩
  rw [← he, List.append_assoc]
  rfl
theorem spell_stepI {n j m : Nat} {acc b : List UInt8} (he : acc ++ spellB n j = b ++ spellB n m) (hj : 0 < j) : (acc ++ [UInt8.ofNat (n / 2 ^ (8 * (((j : Nat) : Int) - 1)).toNat)]) ++ spellB n (j - 1) = b ++ spellB n m := by
  rw [show (8 * (((j : Nat) : Int) - 1)).toNat = 8 * (j - 1) by omega]
  exact spell_step he hj
theorem spell_end {n j m : Nat} {acc b : List UInt8} (he : acc ++ spellB n j = b ++ spellB n m) (hj : j = 0) : acc = b ++ spellB n m := by
  subst hj
  rw [← he, spellB, List.append_nil]
theorem spell_lenE {n j m : Nat} {acc b : List UInt8} (he : acc ++ spellB n j = b ++ spellB n m) : acc.length + j = b.length + m := by
  have := congrArg List.length he
  simpa [spell_len] using this
def numL (l : List UInt8) : Nat := l.foldl (fun n b => n * 2 ^ 8 ||| b.toNat) 0
theorem or_byte (n : Nat) (b : UInt8) : n * 2 ^ 8 ||| b.toNat = n * 256 + b.toNat := by
  have h := UInt8.toNat_lt b
  rw [← Nat.shiftLeft_eq, ← Nat.shiftLeft_add_eq_or_of_lt (i := 8) (by omega), Nat.shiftLeft_eq]
theorem numL_nil : numL [] = 0 := rfl
theorem numL_snoc (l : List UInt8) (b : UInt8) : numL (l ++ [b]) = numL l * 256 + b.toNat := by
  unfold numL
  rw [List.foldl_append]
  exact or_byte _ _
theorem numL_lt' : ∀ (l : List UInt8) (a m : Nat), a < 256 ^ m → l.foldl (fun n b => n * 2 ^ 8 ||| b.toNat) a < 256 ^ (m + l.length)
  | [], a, m, h => h
  | b :: l, a, m, h => by
    rw [List.foldl_cons, or_byte, List.length_cons, show m + (l.length + 1) = (m + 1) + l.length by omega]
    refine numL_lt' l _ (m + 1) ?_
    rw [Nat.pow_succ]
    have := UInt8.toNat_lt b
    omega
theorem numL_lt (l : List UInt8) : numL l < 256 ^ l.length := by
  have := numL_lt' l 0 0 (by decide)
  rwa [Nat.zero_add] at this
theorem numL_lt8 {l : List UInt8} (h : l.length ≤ 8) : numL l < 18446744073709551616 := Nat.lt_of_lt_of_le (numL_lt l) (Nat.le_trans (Nat.pow_le_pow_right (by decide) h) (by decide))
theorem numL_lt7 {l : List UInt8} (h : l.length ≤ 7) : numL l < 72057594037927936 := Nat.lt_of_lt_of_le (numL_lt l) (Nat.le_trans (Nat.pow_le_pow_right (by decide) h) (by decide))
theorem numL_lt4 {l : List UInt8} (h : l.length ≤ 4) : numL l < 4294967296 := Nat.lt_of_lt_of_le (numL_lt l) (Nat.le_trans (Nat.pow_le_pow_right (by decide) h) (by decide))
theorem numL_take {l : List UInt8} {k : Nat} (hk : k < l.length) : numL (l.take (k + 1)) = numL (l.take k) * 2 ^ 8 ||| (l.getD k 0).toNat := by
  rw [tk_succ (z := 0) hk]
  unfold numL
  rw [List.foldl_append]
  rfl
theorem numL_spell (n : Nat) : ∀ (m : Nat) (l : List UInt8), numL (l ++ spellB n m) = numL l * 256 ^ m + n % 256 ^ m
  | 0, l => by simp [spellB, Nat.mod_one]
  | m + 1, l => by
    rw [spellB, show l ++ UInt8.ofNat (n / 2 ^ (8 * m)) :: spellB n m = (l ++ [UInt8.ofNat (n / 2 ^ (8 * m))]) ++ spellB n m by simp, numL_spell n m, numL_snoc]
    have h1 : (UInt8.ofNat (n / 2 ^ (8 * m))).toNat = n / 256 ^ m % 256 := by
      rw [UInt8.toNat_ofNat', Nat.pow_mul]
    rw [h1, Nat.pow_succ, Nat.mod_mul, Nat.add_mul, Nat.mul_assoc, Nat.mul_comm (256 ^ m) (n / 256 ^ m % 256), Nat.mul_comm 256 (256 ^ m)]
    omega
theorem num_spell {n m : Nat} (h : n < 256 ^ m) : numL (spellB n m) = n := by
  have := numL_spell n m []
  rw [List.nil_append, numL_nil, Nat.zero_mul, Nat.zero_add, Nat.mod_eq_of_lt h] at this
  exact this
def cntN (n : Int) : Nat := (min (max n 0) 4294967295).toNat
theorem cntN_lt (n : Int) : cntN n < 4294967296 := by unfold cntN; omega
theorem cntN_of {n : Nat} (h : n ≤ 4294967295) : cntN ((n : Nat) : Int) = n := by unfold cntN; omega
def intB (n : Int) : List UInt8 := spellB (u64 n) 8
def cntB (n : Int) : List UInt8 := spellB (cntN n) 4
def bytesB (x : List UInt8) : List UInt8 := cntB ((x.length : Nat) : Int) ++ x
theorem int_len (n : Int) : (intB n).length = 8 := spell_len _ _
theorem cnt_len (n : Int) : (cntB n).length = 4 := spell_len _ _
theorem bytes_len (x : List UInt8) : (bytesB x).length = x.length + 4 := by rw [bytesB, List.length_append, cnt_len]; omega
end Go.Proofs.YtalapplihdmenaaGreat.Q
namespace Go.Proofs.YtalapplihdmenaaGreat.Q
set_option linter.unusedVariables false
set_option linter.unusedSimpArgs false
def okT (rest : List UInt8) (e n m : Int) : Prop := e = 0 ∧ n ≤ ((rest.length : Nat) : Int) ∧ m = 0
instance (rest : List UInt8) (e n m : Int) : Decidable (okT rest e n m) := inferInstanceAs (Decidable (_ ∧ _ ∧ _))
def rdR (rest : List UInt8) (e n m : Int) : List UInt8 := if okT rest e n m then rest.drop n.toNat else rest
def rdE (rest : List UInt8) (e n m : Int) : Int := if e ≠ 0 then e else if n > ((rest.length : Nat) : Int) then 10 else m
theorem rdE_ok {rest : List UInt8} {e n m : Int} (h : okT rest e n m) : rdE rest e n m = 0 := by
  obtain ⟨h1, h2, h3⟩ := h
  unfold rdE
  rw [if_neg (by omega), if_neg (by omega), h3]
theorem rdE_no {rest : List UInt8} {e n m : Int} (h : ¬ okT rest e n m) : rdE rest e n m ≠ 0 := by
  unfold rdE
  split
  · assumption
  · split
    · decide
    · exact fun hm => h ⟨by omega, by omega, hm⟩
theorem rdR_ok {rest : List UInt8} {e n m : Int} (h : okT rest e n m) : rdR rest e n m = rest.drop n.toNat := if_pos h
theorem rdR_no {rest : List UInt8} {e n m : Int} (h : ¬ okT rest e n m) : rdR rest e n m = rest := if_neg h
def limE (most : Int) (b : List UInt8) : Int := if ((numL b : Nat) : Int) > max most 0 then 11 else 0
def rdI (rest : List UInt8) (e : Int) : Int := if okT rest e 8 0 then toI64 (numL (rest.take 8)) else 0
def rdC (rest : List UInt8) (e most : Int) : Nat := if okT rest e 4 (limE most (rest.take 4)) then numL (rest.take 4) else 0
def okY (rest : List UInt8) (e most : Int) : Prop := okT rest e 4 (limE most (rest.take 4)) ∧ numL (rest.take 4) ≤ (rest.drop 4).length
instance (rest : List UInt8) (e most : Int) : Decidable (okY rest e most) := inferInstanceAs (Decidable (_ ∧ _))
def rdY (rest : List UInt8) (e most : Int) : List UInt8 := if okY rest e most then (rest.drop 4).take (numL (rest.take 4)) else []
def rdYR (rest : List UInt8) (e most : Int) : List UInt8 := if okY rest e most then (rest.drop 4).drop (numL (rest.take 4)) else rest
def rdYE (rest : List UInt8) (e most : Int) : Int := if okT rest e 4 (limE most (rest.take 4)) then (if numL (rest.take 4) ≤ (rest.drop 4).length then 0 else 10) else rdE rest e 4 (limE most (rest.take 4))
def rdX (rest : List UInt8) (e : Int) : Int := if e = 0 ∧ ((rest.length : Nat) : Int) > 0 then 13 else e
theorem rdC_ok {rest : List UInt8} {e most : Int} (h : okT rest e 4 (limE most (rest.take 4))) : rdC rest e most = numL (rest.take 4) := if_pos h
theorem rdC_lt (rest : List UInt8) (e most : Int) : rdC rest e most < 4294967296 := by
  unfold rdC; split
  · exact numL_lt4 (by simp; omega)
  · decide
theorem rdR_len (rest : List UInt8) (e n m : Int) : (rdR rest e n m).length ≤ rest.length := by unfold rdR; split <;> simp
section
variable {rest : List UInt8} {e most : Int}
theorem okT_of {n m : Int} (h : rdE rest e n m = 0) : okT rest e n m := Classical.byContradiction fun hn => rdE_no hn h
theorem rdY_fail (h : rdE rest e 4 (limE most (rest.take 4)) ≠ 0) : rdY rest e most = [] ∧ rdYR rest e most = rest ∧ rdYE rest e most = rdE rest e 4 (limE most (rest.take 4)) ∧ rdR rest e 4 (limE most (rest.take 4)) = rest := by
  have h1 : ¬ okT rest e 4 (limE most (rest.take 4)) := fun hk => h (rdE_ok hk)
  exact ⟨if_neg fun h2 => h1 h2.1, if_neg fun h2 => h1 h2.1, if_neg h1, rdR_no h1⟩
theorem rdY_second (h : rdE rest e 4 (limE most (rest.take 4)) = 0) : okT (rdR rest e 4 (limE most (rest.take 4))) (rdE rest e 4 (limE most (rest.take 4))) ((rdC rest e most : Nat) : Int) 0 ↔ okY rest e most := by
  have h1 := okT_of h
  rw [rdR_ok h1, rdC_ok h1, h]
  show okT (rest.drop 4) 0 _ 0 ↔ _
  unfold okT okY
  constructor
  · exact fun h2 => ⟨h1, by have := h2.2.1; omega⟩
  · exact fun h2 => ⟨rfl, by have := h2.2; omega, rfl⟩
theorem rdY_ok (h : rdE rest e 4 (limE most (rest.take 4)) = 0) (h2 : okT (rdR rest e 4 (limE most (rest.take 4))) (rdE rest e 4 (limE most (rest.take 4))) ((rdC rest e most : Nat) : Int) 0) :
    rdY rest e most = (rdR rest e 4 (limE most (rest.take 4))).take (((rdC rest e most : Nat) : Int)).toNat ∧ rdYR rest e most = (rdR rest e 4 (limE most (rest.take 4))).drop (((rdC rest e most : Nat) : Int)).toNat ∧ rdYE rest e most = 0 := by
  have h1 := okT_of h
  have h3 := (rdY_second h).1 h2
  rw [rdR_ok h1, rdC_ok h1]
  refine ⟨(if_pos h3).trans rfl, (if_pos h3).trans rfl, ?_⟩
  unfold rdYE
  rw [if_pos h1, if_pos h3.2]
theorem rdY_short (h : rdE rest e 4 (limE most (rest.take 4)) = 0) (h2 : ¬ okT (rdR rest e 4 (limE most (rest.take 4))) (rdE rest e 4 (limE most (rest.take 4))) ((rdC rest e most : Nat) : Int) 0) :
    rdY rest e most = [] ∧ rdYR rest e most = rest ∧ rdYE rest e most = rdE (rdR rest e 4 (limE most (rest.take 4))) (rdE rest e 4 (limE most (rest.take 4))) ((rdC rest e most : Nat) : Int) 0 := by
  have h1 := okT_of h
  have h3 : ¬ okY rest e most := fun h4 => h2 ((rdY_second h).2 h4)
  refine ⟨if_neg h3, if_neg h3, ?_⟩
  unfold rdYE
  have h4 : ¬ numL (rest.take 4) ≤ (rest.drop 4).length := fun h5 => h3 ⟨h1, h5⟩
  rw [if_pos h1, if_neg h4, h, rdR_ok h1, rdC_ok h1]
  show (10 : Int) = rdE (rest.drop 4) 0 _ 0
  unfold rdE
  rw [if_neg (by decide), if_pos (by omega)]
end
theorem rdY_len (rest : List UInt8) (e most : Int) : (rdY rest e most).length ≤ rest.length := by unfold rdY; split <;> simp <;> omega
theorem rdYR_len (rest : List UInt8) (e most : Int) : (rdYR rest e most).length ≤ rest.length := by unfold rdYR; split <;> simp <;> omega
theorem spell_inj {a b m : Nat} (ha : a < 256 ^ m) (hb : b < 256 ^ m) : spellB a m = spellB b m ↔ a = b :=
  ⟨fun h => by rw [← num_spell ha, ← num_spell hb, h], fun h => by rw [h]⟩
theorem cntB_inj {a b : Int} : cntB a = cntB b ↔ cntN a = cntN b := spell_inj (Nat.lt_of_lt_of_le (cntN_lt a) (by decide)) (Nat.lt_of_lt_of_le (cntN_lt b) (by decide))
theorem bytesB_app {x y p q : List UInt8} (hx : x.length ≤ 4294967295) (hy : y.length ≤ 4294967295) (h : bytesB x ++ p = bytesB y ++ q) : x = y ∧ p = q := by
  unfold bytesB at h
  rw [List.append_assoc, List.append_assoc] at h
  obtain ⟨h1, h2⟩ := List.append_inj h (by rw [cnt_len, cnt_len])
  rw [cntB_inj, cntN_of hx, cntN_of hy] at h1
  exact List.append_inj h2 h1
theorem okT_app {p r : List UInt8} {n : Nat} (h : p.length = n) : okT (p ++ r) 0 ((n : Nat) : Int) 0 := ⟨rfl, by simp; omega, rfl⟩
theorem take_app {p r : List UInt8} {n : Nat} (h : p.length = n) : (p ++ r).take n = p := by rw [List.take_append_of_le_length (by omega), List.take_of_length_le (by omega)]
theorem drop_app {p r : List UInt8} {n : Nat} (h : p.length = n) : (p ++ r).drop n = r := by rw [List.drop_append_of_le_length (by omega), List.drop_of_length_le (by omega), List.nil_append]
theorem lim_cntM {most : Int} (n : Int) (r : List UInt8) (hm : ((cntN n : Nat) : Int) ≤ most) : limE most ((cntB n ++ r).take 4) = 0 ∧ numL ((cntB n ++ r).take 4) = cntN n := by
  have h1 : numL ((cntB n ++ r).take 4) = cntN n := by rw [take_app (cnt_len n), cntB, num_spell (Nat.lt_of_lt_of_le (cntN_lt n) (by decide))]
  refine ⟨?_, h1⟩
  unfold limE
  rw [h1, if_neg (by omega)]
theorem back_cntM {most : Int} (n : Int) (r : List UInt8) (hm : ((cntN n : Nat) : Int) ≤ most) : rdC (cntB n ++ r) 0 most = cntN n ∧ rdR (cntB n ++ r) 0 4 (limE most ((cntB n ++ r).take 4)) = r ∧ rdE (cntB n ++ r) 0 4 (limE most ((cntB n ++ r).take 4)) = 0 := by
  obtain ⟨h0, h1⟩ := lim_cntM n r hm
  have hk : okT (cntB n ++ r) 0 4 (limE most ((cntB n ++ r).take 4)) := by rw [h0]; exact okT_app (cnt_len n)
  refine ⟨by rw [rdC_ok hk, h1], ?_, rdE_ok hk⟩
  rw [rdR_ok hk]; exact drop_app (cnt_len n)
theorem back_bytesM {most : Int} {x : List UInt8} (hx : x.length ≤ 4294967295) (r : List UInt8) (hm : ((x.length : Nat) : Int) ≤ most) : rdY (bytesB x ++ r) 0 most = x ∧ rdYR (bytesB x ++ r) 0 most = r ∧ rdYE (bytesB x ++ r) 0 most = 0 := by
  have e : bytesB x ++ r = cntB ((x.length : Nat) : Int) ++ (x ++ r) := by rw [bytesB, List.append_assoc]
  rw [e]
  obtain ⟨h0, h1⟩ := lim_cntM (most := most) ((x.length : Nat) : Int) (x ++ r) (by rw [cntN_of hx]; exact hm)
  rw [cntN_of hx] at h1
  have hk : okT (cntB ((x.length : Nat) : Int) ++ (x ++ r)) 0 4 (limE most ((cntB ((x.length : Nat) : Int) ++ (x ++ r)).take 4)) := by rw [h0]; exact okT_app (cnt_len _)
  have hd : (cntB ((x.length : Nat) : Int) ++ (x ++ r)).drop 4 = x ++ r := drop_app (cnt_len _)
  have hle : numL ((cntB ((x.length : Nat) : Int) ++ (x ++ r)).take 4) ≤ ((cntB ((x.length : Nat) : Int) ++ (x ++ r)).drop 4).length := by rw [h1, hd]; simp
  have hy : okY (cntB ((x.length : Nat) : Int) ++ (x ++ r)) 0 most := ⟨hk, hle⟩
  refine ⟨?_, ?_, ?_⟩
  · rw [rdY, if_pos hy, h1, hd]; exact take_app rfl
  · rw [rdYR, if_pos hy, h1, hd]; exact drop_app rfl
  · rw [rdYE, if_pos hk, if_pos hle]
end Go.Proofs.YtalapplihdmenaaGreat.Q
namespace Go.Proofs.YtalapplihdmenaaGreat.Q
set_option linter.unusedVariables false
set_option linter.unusedSimpArgs false
section
variable {B : List UInt8} {a : Nat} {e n m : Int}
end
section
variable {B : List UInt8} {a : Nat} {e most : Int}
end
end Go.Proofs.YtalapplihdmenaaGreat.Q
namespace Go.Proofs.YtalapplihdmenaaGreat.Q
set_option linter.unusedVariables false
set_option linter.unusedSimpArgs false
def szP (l : List (List UInt8)) : Nat := l.foldl (fun n p => n + (4 + p.length)) 5
theorem szP_ge (l : List (List UInt8)) : ∀ n, n ≤ l.foldl (fun n p => n + (4 + p.length)) n := by
  induction l with
  | nil => exact fun n => Nat.le_refl _
  | cons p r ih => exact fun n => Nat.le_trans (show n ≤ n + (4 + p.length) by omega) (ih _)
theorem szP_take (l : List (List UInt8)) (k : Nat) : szP (l.take k) ≤ szP l := by
  have h : szP l = (l.drop k).foldl (fun n p => n + (4 + p.length)) (szP (l.take k)) := by
    unfold szP
    rw [← List.foldl_append, List.take_append_drop]
  rw [h]
  exact szP_ge _ _
theorem szP_succ {l : List (List UInt8)} {k : Nat} (hk : k < l.length) : szP (l.take (k + 1)) = szP (l.take k) + (4 + (l.getD k []).length) := foldl_succ hk
theorem szP_len (l : List (List UInt8)) : ∀ n, n + 4 * l.length ≤ l.foldl (fun n p => n + (4 + p.length)) n := by
  induction l with
  | nil => exact fun n => by simp
  | cons p r ih => exact fun n => by have := ih (n + (4 + p.length)); simp only [List.foldl_cons, List.length_cons]; omega
theorem szP_count (l : List (List UInt8)) : l.length ≤ szP l := by have := szP_len l 5; unfold szP; omega
def partsB (l : List (List UInt8)) : List UInt8 := l.flatMap bytesB
def ofR (t : UInt8) (n : Nat) (l : List (List UInt8)) : List UInt8 := [t] ++ cntB ((n : Nat) : Int) ++ partsB l
def ofB (t : UInt8) (l : List (List UInt8)) : List UInt8 := ofR t l.length l
theorem ofR_len (t : UInt8) (n : Nat) (l : List (List UInt8)) : (ofR t n l).length = szP l := by
  have h : ∀ (l : List (List UInt8)) (n : Nat), l.foldl (fun n p => n + (4 + p.length)) n = n + (partsB l).length := by
    intro l
    induction l with
    | nil => intro n; simp [partsB]
    | cons p r ih =>
      intro n
      have e : partsB (p :: r) = bytesB p ++ partsB r := rfl
      rw [List.foldl_cons, ih, e, List.length_append, bytes_len]
      omega
  unfold szP
  rw [h, ofR, List.length_append, List.length_append, cnt_len]
  simp
theorem ofB_len (t : UInt8) (l : List (List UInt8)) : (ofB t l).length = szP l := ofR_len _ _ _
theorem ofR_succ {t : UInt8} {n k : Nat} {l : List (List UInt8)} (hk : k < l.length) : ofR t n (l.take (k + 1)) = ofR t n (l.take k) ++ bytesB (l.getD k []) := by
  rw [tk_succ (z := []) hk]
  simp [ofR, partsB, List.flatMap_append]
theorem ofR_all (t : UInt8) (l : List (List UInt8)) : ofR t l.length (l.take l.length) = ofB t l := by rw [List.take_length]; rfl
structure OpS where
  rest : List UInt8
  e : Int
  ps : List (List UInt8)
def stepO (most : Int) (s : OpS) : OpS := ⟨rdYR s.rest s.e most, rdYE s.rest s.e most, s.ps ++ [rdY s.rest s.e most]⟩
def startO (d : List UInt8) : OpS := ⟨rdR (d.drop 1) 0 4 (limE ((d.length : Nat) : Int) ((d.drop 1).take 4)), rdE (d.drop 1) 0 4 (limE ((d.length : Nat) : Int) ((d.drop 1).take 4)), []⟩
def cntO (d : List UInt8) : Nat := rdC (d.drop 1) 0 ((d.length : Nat) : Int)
def runO (d : List UInt8) : Nat → OpS
  | 0 => startO d
  | k + 1 => stepO ((d.length : Nat) : Int) (runO d k)
def finO (d : List UInt8) : OpS := runO d (cntO d)
def okO (d : List UInt8) : Prop := d ≠ [] ∧ rdX (finO d).rest (finO d).e = 0
instance (d : List UInt8) : Decidable (okO d) := inferInstanceAs (Decidable (_ ∧ _))
def opT (d : List UInt8) : UInt8 := if okO d then d.getD 0 0 else 0
def opP (d : List UInt8) : List (List UInt8) := if okO d then (finO d).ps else []
end Go.Proofs.YtalapplihdmenaaGreat.Q
namespace Go.Proofs.YtalapplihdmenaaGreat.Q
set_option linter.unusedVariables false
set_option linter.unusedSimpArgs false
theorem szP_mem {l : List (List UInt8)} {x : List UInt8} (h : x ∈ l) : x.length ≤ szP l := by
  have key : ∀ (l : List (List UInt8)) (n : Nat), x ∈ l → x.length ≤ l.foldl (fun n p => n + (4 + p.length)) n := by
    intro l
    induction l with
    | nil => intro n h; cases h
    | cons p r ih =>
      intro n h
      cases h with
      | head => exact Nat.le_trans (show x.length ≤ n + (4 + x.length) by omega) (szP_ge r _)
      | tail _ h => exact ih _ h
  exact key l 5 h
theorem run_of {t : UInt8} {l : List (List UInt8)} (hl : szP l ≤ 4294967295) : cntO (ofB t l) = l.length ∧ ∀ k, k ≤ l.length → runO (ofB t l) k = ⟨partsB (l.drop k), 0, l.take k⟩ := by
  have hlen := ofB_len t l
  have hcnt := szP_count l
  have hd : (ofB t l).drop 1 = cntB ((l.length : Nat) : Int) ++ partsB l := rfl
  have hc := cntN_of (n := l.length) (by omega)
  obtain ⟨c1, c2, c3⟩ := back_cntM (most := (((ofB t l).length : Nat) : Int)) ((l.length : Nat) : Int) (partsB l) (by rw [hc]; omega)
  refine ⟨by rw [cntO, hd, c1, hc], fun k => ?_⟩
  induction k with
  | zero =>
    intro _
    show startO _ = _
    unfold startO
    rw [hd, c2, c3]
    rfl
  | succ k ih =>
    intro hk
    have e : partsB (l.drop k) = bytesB (l.getD k []) ++ partsB (l.drop (k + 1)) := by
      unfold partsB
      rw [List.drop_eq_getElem_cons (by omega), List.flatMap_cons, List.getD_eq_getElem?_getD, List.getElem?_eq_getElem (by omega)]
      rfl
    have hm : (l.getD k []).length ≤ szP l := szP_mem (getD_mem (by omega))
    obtain ⟨b1, b2, b3⟩ := back_bytesM (most := (((ofB t l).length : Nat) : Int)) (x := l.getD k []) (by omega) (partsB (l.drop (k + 1))) (by omega)
    show stepO _ (runO _ k) = _
    rw [ih (by omega)]
    unfold stepO
    rw [e, b1, b2, b3, tk_succ (z := []) (by omega)]
theorem open_of {t : UInt8} {l : List (List UInt8)} (hl : szP l ≤ 4294967295) : okO (ofB t l) ∧ opT (ofB t l) = t ∧ opP (ofB t l) = l := by
  obtain ⟨h1, h2⟩ := run_of (t := t) hl
  have hf : finO (ofB t l) = ⟨[], 0, l⟩ := by
    unfold finO
    rw [h1, h2 _ (Nat.le_refl _), List.drop_length, List.take_length]
    rfl
  have hok : okO (ofB t l) := ⟨by intro h; have := ofB_len t l; rw [h] at this; have := szP_count l; simp [szP] at *; have := szP_ge l 5; omega, by rw [hf]; rfl⟩
  refine ⟨hok, (if_pos hok).trans rfl, (if_pos hok).trans (by rw [hf])⟩
theorem ofB_inj {s t : UInt8} {l m : List (List UInt8)} (hl : szP l ≤ 4294967295) (hm : szP m ≤ 4294967295) : ofB s l = ofB t m ↔ s = t ∧ l = m := by
  constructor
  · intro h
    obtain ⟨_, a1, a2⟩ := open_of (t := s) hl
    obtain ⟨_, b1, b2⟩ := open_of (t := t) hm
    rw [h] at a1 a2
    exact ⟨a1.symm.trans b1, a2.symm.trans b2⟩
  · rintro ⟨rfl, rfl⟩; rfl
end Go.Proofs.YtalapplihdmenaaGreat.Q
namespace Go.Proofs.YtalapplihdmenaaGreat.Q
set_option linter.unusedVariables false
set_option linter.unusedSimpArgs false
def fOf (f : Int) : Int := min (max f 0) 2
def cOf (c : Int) : Int := min (max c 0) 8
theorem fOf_ok (f : Int) : 0 ≤ fOf f ∧ fOf f ≤ 2 := by unfold fOf; omega
theorem cOf_ok (f : Int) : 0 ≤ cOf f ∧ cOf f ≤ 8 := by unfold cOf; omega
def isReplica (f s : Int) : Prop := s ≥ 0 ∧ s < 3 * f + 1
def isClient (u s : Int) : Prop := s ≥ 1000 ∧ s - 1000 < u
def isKnown (f u s : Int) : Prop := isReplica f s ∨ isClient u s
instance (f s : Int) : Decidable (isReplica f s) := inferInstanceAs (Decidable (_ ∧ _))
instance (f s : Int) : Decidable (isClient f s) := inferInstanceAs (Decidable (_ ∧ _))
instance (f u s : Int) : Decidable (isKnown f u s) := inferInstanceAs (Decidable (_ ∨ _))
def primaryA (f v : Int) : Int := if v < 0 then 0 else v % (3 * f + 1)
def orgA (u s : Int) : Int := if isClient u s then (s - 1000) % 4 else -1
def signE (f u s : Int) (b : List UInt8) : Int := if isKnown f u s then (if ((b.length : Nat) : Int) > 16777216 then 11 else 0) else 30
def signV (f u s : Int) (b : List UInt8) : aE := if signE f u s b = 0 then ⟨s, b⟩ else zE
abbrev Tab := List (authn_pair × Bool)
def signT (f u : Int) (rows : Tab) (s : Int) (b : List UInt8) : Tab := if signE f u s b = 0 then mput rows ⟨s, b⟩ true else rows
def checkE (f u : Int) (rows : Tab) (e : aE) : Int := if isKnown f u e.f_Signer then (if mhas rows ⟨e.f_Signer, e.f_Body⟩ = true then 0 else 31) else 30
def putL (l : List aE) (e : aE) : List aE := if e ∈ l then l else l ++ [e]
def signL (f u : Int) (l : List aE) (s : Int) (b : List UInt8) : List aE := if signE f u s b = 0 then putL l ⟨s, b⟩ else l
def keyE (e : aE) : authn_pair := ⟨e.f_Signer, e.f_Body⟩
theorem keyE_inj {e e' : aE} : keyE e = keyE e' ↔ e = e' := by cases e; cases e'; simp [keyE]
def tabM (l : List aE) : Tab := l.map fun e => (keyE e, true)
theorem mput_tab (l : List aE) (e : aE) : mput (tabM l) (keyE e) true = tabM (putL l e) := by
  induction l with
  | nil => simp [tabM, mput, putL]
  | cons a r ih =>
    by_cases h : a = e
    · subst h
      simp [tabM, mput, putL, keyE_inj]
    · have h1 : mput (tabM (a :: r)) (keyE e) true = (keyE a, true) :: mput (tabM r) (keyE e) true := by
        simp only [tabM, List.map_cons, mput, keyE_inj, if_neg h]
      rw [h1, ih]
      have h2 : ¬ e = a := fun q => h q.symm
      by_cases h3 : e ∈ r
      · simp [putL, h3, tabM]
      · simp [putL, h3, h2, tabM]
theorem sign_tab (f u : Int) (l : List aE) (s : Int) (b : List UInt8) : signT f u (tabM l) s b = tabM (signL f u l s b) := by
  unfold signT signL
  split
  · exact mput_tab l ⟨s, b⟩
  · rfl
theorem putL_len (l : List aE) (e : aE) : (putL l e).length ≤ l.length + 1 := by unfold putL; split <;> simp
theorem signL_len (f u : Int) (l : List aE) (s : Int) (b : List UInt8) : (signL f u l s b).length ≤ l.length + 1 := by
  unfold signL; split
  · exact putL_len _ _
  · omega
end Go.Proofs.YtalapplihdmenaaGreat.Q
namespace Go.Proofs.YtalapplihdmenaaGreat.Q
set_option linter.unusedVariables false
set_option linter.unusedSimpArgs false
def fillL {α : Type} (z : α) (L : List α) (k : Nat) : List α := L.take k ++ List.replicate (L.length - k) z
theorem fill_0 {α : Type} (z : α) (L : List α) : fillL z L 0 = List.replicate L.length z := by simp [fillL]
theorem fill_len {α : Type} (z : α) (L : List α) (k : Nat) : (fillL z L k).length = L.length := by simp [fillL]; omega
theorem fill_set {α : Type} {z : α} {L : List α} {k : Nat} (hk : k < L.length) : (fillL z L k).set k (L.getD k z) = fillL z L (k + 1) := by
  unfold fillL
  rw [tk_succ (z := z) hk, List.append_assoc]
  have h1 : (L.take k).length = k := by rw [List.length_take]; omega
  rw [List.set_append_right _ _ (by omega), h1, Nat.sub_self]
  obtain ⟨m, hm⟩ : ∃ m, L.length - k = m + 1 := ⟨L.length - k - 1, by omega⟩
  rw [hm, show L.length - (k + 1) = m by omega]
  rfl
theorem fill_end {α : Type} {z : α} {L : List α} {k : Nat} (hk : L.length ≤ k) : fillL z L k = L := by
  unfold fillL
  rw [List.take_of_length_le hk, show L.length - k = 0 by omega]
  simp
end Go.Proofs.YtalapplihdmenaaGreat.Q
