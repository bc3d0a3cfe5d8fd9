import Derived.Test.YtacikihlgpnjhaaM01
namespace Go.Proofs.Ytacikihlgpnjhaa.Q
set_option linter.unusedVariables false
set_option linter.unusedSimpArgs false

/-! ### What a reader reads -/

/-- May so many bytes be taken, if what is asked of them is answered so? -/
def okT (rest : List UInt8) (e n m : Int) : Prop := e = 0 ∧ n ≤ ((rest.length : Nat) : Int) ∧ m = 0
instance (rest : List UInt8) (e n m : Int) : Decidable (okT rest e n m) := inferInstanceAs (Decidable (_ ∧ _ ∧ _))
def rdR (rest : List UInt8) (e n m : Int) : List UInt8 := if okT rest e n m then rest.drop n.toNat else rest
def rdE (rest : List UInt8) (e n m : Int) : Int := if e ≠ 0 then e else if n > ((rest.length : Nat) : Int) then 10 else m
theorem rdE_ok {rest : List UInt8} {e n m : Int} (h : okT rest e n m) : rdE rest e n m = 0 := by
  obtain ⟨h1, h2, h3⟩ := h
  unfold rdE
  rw [if_neg (by omega), if_neg (by omega), h3]
theorem rdE_no {rest : List UInt8} {e n m : Int} (h : ¬ okT rest e n m) : rdE rest e n m ≠ 0 := by
  unfold rdE
  split
  · assumption
  · split
    · decide
    · exact fun hm => h ⟨by omega, by omega, hm⟩
theorem rdR_ok {rest : List UInt8} {e n m : Int} (h : okT rest e n m) : rdR rest e n m = rest.drop n.toNat := if_pos h
theorem rdR_no {rest : List UInt8} {e n m : Int} (h : ¬ okT rest e n m) : rdR rest e n m = rest := if_neg h

def truthE (b : List UInt8) : Int := if ((b.getD 0 0).toNat : Int) > 1 then 12 else 0
def limE (most : Int) (b : List UInt8) : Int := if ((numL b : Nat) : Int) > max most 0 then 11 else 0
def floatE (b : List UInt8) : Int := if nanB (numL b) = true ∧ ((numL b : Nat) : Int) ≠ 9221120237041090561 then 12 else 0

def rdI (rest : List UInt8) (e : Int) : Int := if okT rest e 8 0 then toI64 (numL (rest.take 8)) else 0
def rdB (rest : List UInt8) (e : Int) : Bool := decide (okT rest e 1 (truthE (rest.take 1)) ∧ (((rest.take 1).getD 0 0).toNat : Int) = 1)
def rdC (rest : List UInt8) (e most : Int) : Nat := if okT rest e 4 (limE most (rest.take 4)) then numL (rest.take 4) else 0
def rdN (rest : List UInt8) (e : Int) : Nat := if okT rest e 8 (floatE (rest.take 8)) then numL (rest.take 8) else 0
/-- Bytes, the number ahead of them: may they be read? -/
def okY (rest : List UInt8) (e most : Int) : Prop := okT rest e 4 (limE most (rest.take 4)) ∧ numL (rest.take 4) ≤ (rest.drop 4).length
instance (rest : List UInt8) (e most : Int) : Decidable (okY rest e most) := inferInstanceAs (Decidable (_ ∧ _))
def rdY (rest : List UInt8) (e most : Int) : List UInt8 := if okY rest e most then (rest.drop 4).take (numL (rest.take 4)) else []
def rdYR (rest : List UInt8) (e most : Int) : List UInt8 := if okY rest e most then (rest.drop 4).drop (numL (rest.take 4)) else rest
def rdYE (rest : List UInt8) (e most : Int) : Int := if okT rest e 4 (limE most (rest.take 4)) then (if numL (rest.take 4) ≤ (rest.drop 4).length then 0 else 10) else rdE rest e 4 (limE most (rest.take 4))
def rdX (rest : List UInt8) (e : Int) : Int := if e = 0 ∧ ((rest.length : Nat) : Int) > 0 then 13 else e
theorem rdB_ok {rest : List UInt8} {e : Int} (h : okT rest e 1 (truthE (rest.take 1))) : rdB rest e = decide ((((rest.take 1).getD 0 0).toNat : Int) = 1) := by
  unfold rdB
  rw [decide_eq_decide]
  exact ⟨fun h1 => h1.2, fun h1 => ⟨h, h1⟩⟩
theorem rdB_no {rest : List UInt8} {e : Int} (h : ¬ okT rest e 1 (truthE (rest.take 1))) : rdB rest e = false := decide_eq_false fun h1 => h h1.1
theorem rdC_ok {rest : List UInt8} {e most : Int} (h : okT rest e 4 (limE most (rest.take 4))) : rdC rest e most = numL (rest.take 4) := if_pos h
theorem rdC_no {rest : List UInt8} {e most : Int} (h : ¬ okT rest e 4 (limE most (rest.take 4))) : rdC rest e most = 0 := if_neg h
theorem rdC_lt (rest : List UInt8) (e most : Int) : rdC rest e most < 4294967296 := by
  unfold rdC; split
  · exact numL_lt4 (by simp; omega)
  · decide
theorem rdR_len (rest : List UInt8) (e n m : Int) : (rdR rest e n m).length ≤ rest.length := by unfold rdR; split <;> simp
section
variable {rest : List UInt8} {e most : Int}
theorem okT_of {n m : Int} (h : rdE rest e n m = 0) : okT rest e n m := Classical.byContradiction fun hn => rdE_no hn h
theorem rdY_fail (h : rdE rest e 4 (limE most (rest.take 4)) ≠ 0) : rdY rest e most = [] ∧ rdYR rest e most = rest ∧ rdYE rest e most = rdE rest e 4 (limE most (rest.take 4)) ∧ rdR rest e 4 (limE most (rest.take 4)) = rest := by
  have h1 : ¬ okT rest e 4 (limE most (rest.take 4)) := fun hk => h (rdE_ok hk)
  exact ⟨if_neg fun h2 => h1 h2.1, if_neg fun h2 => h1 h2.1, if_neg h1, rdR_no h1⟩
theorem rdY_second (h : rdE rest e 4 (limE most (rest.take 4)) = 0) : okT (rdR rest e 4 (limE most (rest.take 4))) (rdE rest e 4 (limE most (rest.take 4))) ((rdC rest e most : Nat) : Int) 0 ↔ okY rest e most := by
  have h1 := okT_of h
  rw [rdR_ok h1, rdC_ok h1, h]
  show okT (rest.drop 4) 0 _ 0 ↔ _
  unfold okT okY
  constructor
  · exact fun h2 => ⟨h1, by have := h2.2.1; omega⟩
  · exact fun h2 => ⟨rfl, by have := h2.2; omega, rfl⟩
theorem rdY_ok (h : rdE rest e 4 (limE most (rest.take 4)) = 0) (h2 : okT (rdR rest e 4 (limE most (rest.take 4))) (rdE rest e 4 (limE most (rest.take 4))) ((rdC rest e most : Nat) : Int) 0) :
    rdY rest e most = (rdR rest e 4 (limE most (rest.take 4))).take (((rdC rest e most : Nat) : Int)).toNat ∧ rdYR rest e most = (rdR rest e 4 (limE most (rest.take 4))).drop (((rdC rest e most : Nat) : Int)).toNat ∧ rdYE rest e most = 0 := by
  have h1 := okT_of h
  have h3 := (rdY_second h).1 h2
  rw [rdR_ok h1, rdC_ok h1]
  refine ⟨(if_pos h3).trans rfl, (if_pos h3).trans rfl, ?_⟩
  unfold rdYE
  rw [if_pos h1, if_pos h3.2]
theorem rdY_short (h : rdE rest e 4 (limE most (rest.take 4)) = 0) (h2 : ¬ okT (rdR rest e 4 (limE most (rest.take 4))) (rdE rest e 4 (limE most (rest.take 4))) ((rdC rest e most : Nat) : Int) 0) :
    rdY rest e most = [] ∧ rdYR rest e most = rest ∧ rdYE rest e most = rdE (rdR rest e 4 (limE most (rest.take 4))) (rdE rest e 4 (limE most (rest.take 4))) ((rdC rest e most : Nat) : Int) 0 := by
  have h1 := okT_of h
  have h3 : ¬ okY rest e most := fun h4 => h2 ((rdY_second h).2 h4)
  refine ⟨if_neg h3, if_neg h3, ?_⟩
  unfold rdYE
  have h4 : ¬ numL (rest.take 4) ≤ (rest.drop 4).length := fun h5 => h3 ⟨h1, h5⟩
  rw [if_pos h1, if_neg h4, h, rdR_ok h1, rdC_ok h1]
  show (10 : Int) = rdE (rest.drop 4) 0 _ 0
  unfold rdE
  rw [if_neg (by decide), if_pos (by omega)]
end
theorem rdY_len (rest : List UInt8) (e most : Int) : (rdY rest e most).length ≤ rest.length := by unfold rdY; split <;> simp <;> omega
theorem rdYR_len (rest : List UInt8) (e most : Int) : (rdYR rest e most).length ≤ rest.length := by unfold rdYR; split <;> simp <;> omega

/-! ### What was put is read -/

theorem spell_inj {a b m : Nat} (ha : a < 256 ^ m) (hb : b < 256 ^ m) : spellB a m = spellB b m ↔ a = b :=
  ⟨fun h => by rw [← num_spell ha, ← num_spell hb, h], fun h => by rw [h]⟩
theorem cntB_inj {a b : Int} : cntB a = cntB b ↔ cntN a = cntN b := spell_inj (Nat.lt_of_lt_of_le (cntN_lt a) (by decide)) (Nat.lt_of_lt_of_le (cntN_lt b) (by decide))
theorem bytesB_app {x y p q : List UInt8} (hx : x.length ≤ 4294967295) (hy : y.length ≤ 4294967295) (h : bytesB x ++ p = bytesB y ++ q) : x = y ∧ p = q := by
  unfold bytesB at h
  rw [List.append_assoc, List.append_assoc] at h
  obtain ⟨h1, h2⟩ := List.append_inj h (by rw [cnt_len, cnt_len])
  rw [cntB_inj, cntN_of hx, cntN_of hy] at h1
  exact List.append_inj h2 h1
theorem okT_app {p r : List UInt8} {n : Nat} (h : p.length = n) : okT (p ++ r) 0 ((n : Nat) : Int) 0 := ⟨rfl, by simp; omega, rfl⟩
theorem take_app {p r : List UInt8} {n : Nat} (h : p.length = n) : (p ++ r).take n = p := by rw [List.take_append_of_le_length (by omega), List.take_of_length_le (by omega)]
theorem drop_app {p r : List UInt8} {n : Nat} (h : p.length = n) : (p ++ r).drop n = r := by rw [List.drop_append_of_le_length (by omega), List.drop_of_length_le (by omega), List.nil_append]
theorem lim_cntM {most : Int} (n : Int) (r : List UInt8) (hm : ((cntN n : Nat) : Int) ≤ most) : limE most ((cntB n ++ r).take 4) = 0 ∧ numL ((cntB n ++ r).take 4) = cntN n := by
  have h1 : numL ((cntB n ++ r).take 4) = cntN n := by rw [take_app (cnt_len n), cntB, num_spell (Nat.lt_of_lt_of_le (cntN_lt n) (by decide))]
  refine ⟨?_, h1⟩
  unfold limE
  rw [h1, if_neg (by omega)]
theorem back_cntM {most : Int} (n : Int) (r : List UInt8) (hm : ((cntN n : Nat) : Int) ≤ most) : rdC (cntB n ++ r) 0 most = cntN n ∧ rdR (cntB n ++ r) 0 4 (limE most ((cntB n ++ r).take 4)) = r ∧ rdE (cntB n ++ r) 0 4 (limE most ((cntB n ++ r).take 4)) = 0 := by
  obtain ⟨h0, h1⟩ := lim_cntM n r hm
  have hk : okT (cntB n ++ r) 0 4 (limE most ((cntB n ++ r).take 4)) := by rw [h0]; exact okT_app (cnt_len n)
  refine ⟨by rw [rdC_ok hk, h1], ?_, rdE_ok hk⟩
  rw [rdR_ok hk]; exact drop_app (cnt_len n)
theorem back_bytesM {most : Int} {x : List UInt8} (hx : x.length ≤ 4294967295) (r : List UInt8) (hm : ((x.length : Nat) : Int) ≤ most) : rdY (bytesB x ++ r) 0 most = x ∧ rdYR (bytesB x ++ r) 0 most = r ∧ rdYE (bytesB x ++ r) 0 most = 0 := by
  have e : bytesB x ++ r = cntB ((x.length : Nat) : Int) ++ (x ++ r) := by rw [bytesB, List.append_assoc]
  rw [e]
  obtain ⟨h0, h1⟩ := lim_cntM (most := most) ((x.length : Nat) : Int) (x ++ r) (by rw [cntN_of hx]; exact hm)
  rw [cntN_of hx] at h1
  have hk : okT (cntB ((x.length : Nat) : Int) ++ (x ++ r)) 0 4 (limE most ((cntB ((x.length : Nat) : Int) ++ (x ++ r)).take 4)) := by rw [h0]; exact okT_app (cnt_len _)
  have hd : (cntB ((x.length : Nat) : Int) ++ (x ++ r)).drop 4 = x ++ r := drop_app (cnt_len _)
  have hle : numL ((cntB ((x.length : Nat) : Int) ++ (x ++ r)).take 4) ≤ ((cntB ((x.length : Nat) : Int) ++ (x ++ r)).drop 4).length := by rw [h1, hd]; simp
  have hy : okY (cntB ((x.length : Nat) : Int) ++ (x ++ r)) 0 most := ⟨hk, hle⟩
  refine ⟨?_, ?_, ?_⟩
  · rw [rdY, if_pos hy, h1, hd]; exact take_app rfl
  · rw [rdYR, if_pos hy, h1, hd]; exact drop_app rfl
  · rw [rdYE, if_pos hk, if_pos hle]

/-! ### What is read was put -/

theorem numL_append (q : List UInt8) : ∀ (r : List UInt8), numL (q ++ r) = numL q * 256 ^ r.length + numL r := by
  have key : ∀ (r q : List UInt8), numL (q ++ r) = numL q * 256 ^ r.length + numL r := by
    intro r
    induction r with
    | nil => intro q; simp [numL]
    | cons x r ih =>
      intro q
      have e1 : numL (q ++ x :: r) = numL ((q ++ [x]) ++ r) := by simp
      have e2 : numL (x :: r) = numL (([] ++ [x]) ++ r) := by simp
      rw [e1, e2, ih, ih, numL_snoc, numL_snoc, numL_nil, List.length_cons, Nat.pow_succ]
      rw [Nat.add_mul, Nat.add_mul, Nat.mul_assoc, Nat.mul_comm 256 (256 ^ r.length)]
      omega
  exact fun r => key r q
theorem spell_num : ∀ (b p : List UInt8), spellB (numL (p ++ b)) b.length = b
  | [], _ => rfl
  | x :: r, p => by
    have e1 : p ++ x :: r = (p ++ [x]) ++ r := by simp
    rw [List.length_cons, spellB, e1, spell_num r (p ++ [x]), numL_append (p ++ [x]) r]
    have h := numL_lt r
    have hp : 2 ^ (8 * r.length) = 256 ^ r.length := by rw [Nat.pow_mul]
    rw [hp, Nat.mul_comm, Nat.mul_add_div (Nat.pow_pos (by decide)), Nat.div_eq_of_lt h, Nat.add_zero, numL_snoc]
    congr 1
    apply UInt8.toNat_inj.1
    rw [UInt8.toNat_ofNat']
    have := UInt8.toNat_lt x
    omega
theorem cnt_num {b : List UInt8} (h : b.length = 4) : cntB ((numL b : Nat) : Int) = b := by
  have h1 := numL_lt4 (l := b) (by omega)
  unfold cntB
  rw [cntN_of (by omega), ← h]
  exact spell_num b []
/-- Bytes that were read stand there. -/
theorem read_bytes {rest : List UInt8} {e most : Int} (h : rdYE rest e most = 0) : e = 0 ∧ rest = bytesB (rdY rest e most) ++ rdYR rest e most ∧ (rdY rest e most).length ≤ 4294967295 := by
  unfold rdYE at h
  by_cases h1 : okT rest e 4 (limE most (rest.take 4))
  · rw [if_pos h1] at h
    by_cases h2 : numL (rest.take 4) ≤ (rest.drop 4).length
    · have hy : okY rest e most := ⟨h1, h2⟩
      have h4 : (rest.take 4).length = 4 := by have := h1.2.1; rw [List.length_take]; omega
      have hl : ((rest.drop 4).take (numL (rest.take 4))).length = numL (rest.take 4) := by rw [List.length_take]; omega
      refine ⟨h1.1, ?_, ?_⟩
      · rw [rdY, if_pos hy, rdYR, if_pos hy, bytesB, hl, cnt_num h4, List.append_assoc, List.take_append_drop, List.take_append_drop]
      · rw [rdY, if_pos hy, hl]; have := numL_lt4 (l := rest.take 4) (by omega); omega
    · rw [if_neg h2] at h; cases h
  · rw [if_neg h1] at h
    exact absurd h (rdE_no h1)
theorem read_cnt {rest : List UInt8} {e most : Int} (h : rdE rest e 4 (limE most (rest.take 4)) = 0) : e = 0 ∧ rest = cntB ((rdC rest e most : Nat) : Int) ++ rdR rest e 4 (limE most (rest.take 4)) ∧ ((rdC rest e most : Nat) : Int) ≤ max most 0 := by
  have h1 := okT_of h
  have h4 : (rest.take 4).length = 4 := by have := h1.2.1; rw [List.length_take]; omega
  refine ⟨h1.1, ?_, ?_⟩
  · rw [rdC_ok h1, rdR_ok h1, cnt_num h4]
    exact (List.take_append_drop 4 rest).symm
  · rw [rdC_ok h1]
    have h3 := h1.2.2
    unfold limE at h3
    split at h3
    · cases h3
    · omega
end Go.Proofs.Ytacikihlgpnjhaa.Q
