import Derived.Test.YtafkobdlcahdbaaM01F
namespace Go.Proofs.Ytafkobdlcahdbaa.Q
set_option linter.unusedVariables false
set_option linter.unusedSimpArgs false

abbrev Item := quaestorlaw01_Item
abbrev zI := z_quaestorlaw01_Item
def szI (x : Item) : Nat := x.f_B.length
def rangeX (l : List Item) : Prop := ∀ x, x ∈ l → x.f_X < 18446744073709551616
theorem range_get {l : List Item} (h : rangeX l) (k : Nat) : (l.getD k zI).f_X < 18446744073709551616 := all_getD h (by decide) k
def rangeN (l : List Item) : Prop := ∀ x, x ∈ l → -9223372036854775808 ≤ x.f_N ∧ x.f_N ≤ 9223372036854775807
theorem rangeN_get {l : List Item} (h : rangeN l) (k : Nat) : -9223372036854775808 ≤ (l.getD k zI).f_N ∧ (l.getD k zI).f_N ≤ 9223372036854775807 := all_getD h (by decide) k

theorem rangeX_set {l : List Item} {k : Nat} {y : Item} (h : rangeX l) (hy : y.f_X < 18446744073709551616) : rangeX (l.set k y) := fun x hx => by
  rcases mem_set hx with h1 | h1
  · exact h x h1
  · rw [h1]; exact hy
def itemB (x : Item) : List UInt8 := if x.f_Kind = 0 then intB x.f_N else if x.f_Kind = 1 then boolB (decide (x.f_N > 0)) else if x.f_Kind = 2 then cntB x.f_N else if x.f_Kind = 3 then bytesB x.f_B else if x.f_Kind = 4 then numB x.f_X else []
def putB (l : List Item) : List UInt8 := l.flatMap itemB
def runB (l : List Item) (k : Nat) : List UInt8 := putB (l.take k)
theorem runB_succ {l : List Item} {k : Nat} (hk : k < l.length) : runB l (k + 1) = runB l k ++ itemB (l.getD k zI) := by
  unfold runB putB
  rw [tk_succ (z := zI) hk, List.flatMap_append]
  simp
section
variable {l : List Item} {k : Nat} {x : Item} (hk : k < l.length) (hx : l.getD k zI = x)
include hk hx
theorem run_0 (h : x.f_Kind = 0) : runB l (k + 1) = runB l k ++ intB x.f_N := by rw [runB_succ hk, hx, itemB, if_pos h]
theorem run_1 (h : x.f_Kind = 1) : runB l (k + 1) = runB l k ++ boolB (decide (x.f_N > 0)) := by rw [runB_succ hk, hx, itemB, if_neg (by omega), if_pos h]
theorem run_2 (h : x.f_Kind = 2) : runB l (k + 1) = runB l k ++ cntB x.f_N := by rw [runB_succ hk, hx, itemB, if_neg (by omega), if_neg (by omega), if_pos h]
theorem run_3 (h : x.f_Kind = 3) : runB l (k + 1) = runB l k ++ bytesB x.f_B := by rw [runB_succ hk, hx, itemB, if_neg (by omega), if_neg (by omega), if_neg (by omega), if_pos h]
theorem run_4 (h : x.f_Kind = 4) : runB l (k + 1) = runB l k ++ numB x.f_X := by rw [runB_succ hk, hx, itemB, if_neg (by omega), if_neg (by omega), if_neg (by omega), if_neg (by omega), if_pos h]
theorem run_else (h0 : ¬ x.f_Kind = 0) (h1 : ¬ x.f_Kind = 1) (h2 : ¬ x.f_Kind = 2) (h3 : ¬ x.f_Kind = 3) (h4 : ¬ x.f_Kind = 4) : runB l (k + 1) = runB l k := by
  rw [runB_succ hk, hx, itemB, if_neg h0, if_neg h1, if_neg h2, if_neg h3, if_neg h4, List.append_nil]
end
theorem item_len (x : Item) : (itemB x).length ≤ x.f_B.length + 8 := by
  unfold itemB
  split
  · rw [int_len]; omega
  · split
    · rw [bool_len]; omega
    · split
      · rw [cnt_len]; omega
      · split
        · rw [bytes_len]; omega
        · split
          · rw [num_len]; omega
          · simp
theorem run_len {l : List Item} (hf : fewG szI 200 2000 l) : ∀ k, (runB l k).length ≤ 2008 * k
  | 0 => by simp [runB, putB]
  | k + 1 => by
    have ih := run_len hf k
    rcases Nat.lt_or_ge k l.length with hk | hk
    · rw [runB_succ hk, List.length_append]
      have h1 := item_len (l.getD k zI)
      have h2 : (l.getD k zI).f_B.length ≤ 2000 := fewG_get (sz := szI) hf (by decide) k
      omega
    · have : runB l (k + 1) = runB l k := by rw [runB, runB, List.take_of_length_le (by omega), List.take_of_length_le hk]
      rw [this]; omega
theorem run_all (l : List Item) : runB l l.length = putB l := by rw [runB, List.take_length]

/-! ### Two things of one kind -/

def alikeP (x y : Item) : Prop := if x.f_Kind = 0 then x.f_N = y.f_N else if x.f_Kind = 1 then decide (x.f_N > 0) = decide (y.f_N > 0) else if x.f_Kind = 2 then max 0 (min x.f_N 4294967295) = max 0 (min y.f_N 4294967295) else if x.f_Kind = 3 then x.f_B = y.f_B else if x.f_Kind = 4 then bitsF x.f_X = bitsF y.f_X else True
instance (x y : Item) : Decidable (alikeP x y) := by unfold alikeP; infer_instance

theorem intB_inj {a b : Int} (ha : -9223372036854775808 ≤ a ∧ a ≤ 9223372036854775807) (hb : -9223372036854775808 ≤ b ∧ b ≤ 9223372036854775807) : intB a = intB b ↔ a = b := by
  unfold intB
  rw [spell_inj (Nat.lt_of_lt_of_le (u64_lt a) (by decide)) (Nat.lt_of_lt_of_le (u64_lt b) (by decide))]
  exact ⟨fun h => by rw [← toI64_u64 ha, ← toI64_u64 hb, h], fun h => by rw [h]⟩
theorem boolB_inj {a b : Bool} : boolB a = boolB b ↔ a = b := by cases a <;> cases b <;> decide
theorem cnt_eq {a b : Int} : cntN a = cntN b ↔ max 0 (min a 4294967295) = max 0 (min b 4294967295) := by unfold cntN; omega
theorem numB_inj {a b : Nat} (ha : a < 18446744073709551616) (hb : b < 18446744073709551616) : numB a = numB b ↔ bitsF a = bitsF b := spell_inj (Nat.lt_of_lt_of_le (bitsF_lt ha) (by decide)) (Nat.lt_of_lt_of_le (bitsF_lt hb) (by decide))

/-- Two things of one kind, and what is behind them. -/
theorem item_app {x y : Item} {p q : List UInt8} (hk : y.f_Kind = x.f_Kind) (hxb : x.f_B.length ≤ 2000) (hyb : y.f_B.length ≤ 2000) (hxn : -9223372036854775808 ≤ x.f_N ∧ x.f_N ≤ 9223372036854775807) (hyn : -9223372036854775808 ≤ y.f_N ∧ y.f_N ≤ 9223372036854775807) (hxx : x.f_X < 18446744073709551616) (hyx : y.f_X < 18446744073709551616) :
    itemB x ++ p = itemB y ++ q ↔ alikeP x y ∧ p = q := by
  unfold itemB alikeP
  rw [hk]
  have fx : ∀ {a b : List UInt8} {P : Prop}, a.length = b.length → (a = b ↔ P) → (a ++ p = b ++ q ↔ P ∧ p = q) := fun hl hP => by
    rw [← hP]
    exact ⟨fun h => List.append_inj h hl, fun h => by rw [h.1, h.2]⟩
  split
  · exact fx (by rw [int_len, int_len]) (intB_inj hxn hyn)
  · split
    · exact fx rfl boolB_inj
    · split
      · exact fx (by rw [cnt_len, cnt_len]) (cntB_inj.trans cnt_eq)
      · split
        · exact ⟨fun h => bytesB_app (by omega) (by omega) h, fun h => by rw [h.1, h.2]⟩
        · split
          · exact fx (by rw [num_len, num_len]) (numB_inj hxx hyx)
          · simp
theorem put_set {l : List Item} {i : Nat} {y : Item} (hi : i < l.length) (hk : y.f_Kind = (l.getD i zI).f_Kind) (hf : fewG szI 200 2000 l) (hyb : y.f_B.length ≤ 2000) (hn : rangeN l) (hyn : -9223372036854775808 ≤ y.f_N ∧ y.f_N ≤ 9223372036854775807) (hx : rangeX l) (hyx : y.f_X < 18446744073709551616) :
    (putB l = putB (l.set i y)) ↔ alikeP (l.getD i zI) y := by
  have e1 : l = l.take i ++ (l.getD i zI) :: l.drop (i + 1) := by
    rw [List.getD_eq_getElem?_getD, List.getElem?_eq_getElem hi]
    simp
  have e2 : l.set i y = l.take i ++ y :: l.drop (i + 1) := List.set_eq_take_append_cons_drop .. |>.trans (if_pos hi)
  have h1 : putB l = putB (l.take i) ++ (itemB (l.getD i zI) ++ putB (l.drop (i + 1))) := by
    conv => lhs; rw [e1]
    simp [putB, List.flatMap_append]
  have h2 : putB (l.set i y) = putB (l.take i) ++ (itemB y ++ putB (l.drop (i + 1))) := by
    rw [e2]
    simp [putB, List.flatMap_append]
  rw [h1, h2, List.append_cancel_left_eq, item_app hk (fewG_get (sz := szI) hf (by decide) i) hyb (rangeN_get hn i) hyn (range_get hx i) hyx]
  simp
theorem tmod_bd {a b : Int} (hb : 0 < b) : -b < a.tmod b ∧ a.tmod b < b := by
  have h1 := Int.tmod_lt_of_pos a hb
  refine ⟨?_, h1⟩
  have h2 := Int.tmod_lt_of_pos (-a) hb
  rw [Int.neg_tmod] at h2
  omega

/-! ### Reading what was put -/

def restB (l : List Item) (k : Nat) : List UInt8 := putB (l.drop k)
theorem restB_zero (l : List Item) : restB l 0 = putB l := rfl
theorem restB_end {l : List Item} {k : Nat} (h : l.length ≤ k) : restB l k = [] := by rw [restB, List.drop_of_length_le h]; rfl
theorem restB_succ {l : List Item} {k : Nat} (hk : k < l.length) : restB l k = itemB (l.getD k zI) ++ restB l (k + 1) := by
  unfold restB
  rw [List.drop_eq_getElem_cons hk, List.getD_eq_getElem?_getD, List.getElem?_eq_getElem hk, putB, List.flatMap_cons]
  rfl
theorem back_int {n : Int} (hn : -9223372036854775808 ≤ n ∧ n ≤ 9223372036854775807) (r : List UInt8) : rdI (intB n ++ r) 0 = n ∧ rdR (intB n ++ r) 0 8 0 = r ∧ rdE (intB n ++ r) 0 8 0 = 0 := by
  have hk : okT (intB n ++ r) 0 8 0 := okT_app (int_len n)
  refine ⟨?_, ?_, rdE_ok hk⟩
  · rw [rdI, if_pos hk, take_app (int_len n), intB, num_spell (Nat.lt_of_lt_of_le (u64_lt n) (by decide)), toI64_u64 hn]
  · rw [rdR_ok hk]; exact drop_app (int_len n)
theorem back_bool (b : Bool) (r : List UInt8) : rdB (boolB b ++ r) 0 = b ∧ rdR (boolB b ++ r) 0 1 (truthE ((boolB b ++ r).take 1)) = r ∧ rdE (boolB b ++ r) 0 1 (truthE ((boolB b ++ r).take 1)) = 0 := by
  have ht : (boolB b ++ r).take 1 = boolB b := take_app (bool_len b)
  have h0 : truthE (boolB b) = 0 := by cases b <;> decide
  have hk : okT (boolB b ++ r) 0 1 (truthE ((boolB b ++ r).take 1)) := by rw [ht, h0]; exact okT_app (bool_len b)
  refine ⟨?_, ?_, rdE_ok hk⟩
  · rw [rdB_ok hk, ht]; cases b <;> decide
  · rw [rdR_ok hk]; exact drop_app (bool_len b)
theorem lim_cnt (n : Int) (r : List UInt8) : limE 1099511627776 ((cntB n ++ r).take 4) = 0 ∧ numL ((cntB n ++ r).take 4) = cntN n := by
  have h1 : numL ((cntB n ++ r).take 4) = cntN n := by rw [take_app (cnt_len n), cntB, num_spell (Nat.lt_of_lt_of_le (cntN_lt n) (by decide))]
  refine ⟨?_, h1⟩
  unfold limE
  rw [h1, if_neg (by have := cntN_lt n; omega)]
theorem back_cnt (n : Int) (r : List UInt8) : rdC (cntB n ++ r) 0 1099511627776 = cntN n ∧ rdR (cntB n ++ r) 0 4 (limE 1099511627776 ((cntB n ++ r).take 4)) = r ∧ rdE (cntB n ++ r) 0 4 (limE 1099511627776 ((cntB n ++ r).take 4)) = 0 := by
  obtain ⟨h0, h1⟩ := lim_cnt n r
  have hk : okT (cntB n ++ r) 0 4 (limE 1099511627776 ((cntB n ++ r).take 4)) := by rw [h0]; exact okT_app (cnt_len n)
  refine ⟨by rw [rdC_ok hk, h1], ?_, rdE_ok hk⟩
  rw [rdR_ok hk]; exact drop_app (cnt_len n)
theorem cnt_as (n : Int) : ((cntN n : Nat) : Int) = max 0 (min n 4294967295) := by unfold cntN; omega
theorem back_bytes {x : List UInt8} (hx : x.length ≤ 4294967295) (r : List UInt8) : rdY (bytesB x ++ r) 0 1099511627776 = x ∧ rdYR (bytesB x ++ r) 0 1099511627776 = r ∧ rdYE (bytesB x ++ r) 0 1099511627776 = 0 := by
  have e : bytesB x ++ r = cntB ((x.length : Nat) : Int) ++ (x ++ r) := by rw [bytesB, List.append_assoc]
  rw [e]
  obtain ⟨h0, h1⟩ := lim_cnt ((x.length : Nat) : Int) (x ++ r)
  rw [cntN_of hx] at h1
  have hk : okT (cntB ((x.length : Nat) : Int) ++ (x ++ r)) 0 4 (limE 1099511627776 ((cntB ((x.length : Nat) : Int) ++ (x ++ r)).take 4)) := by rw [h0]; exact okT_app (cnt_len _)
  have hd : (cntB ((x.length : Nat) : Int) ++ (x ++ r)).drop 4 = x ++ r := drop_app (cnt_len _)
  have hle : numL ((cntB ((x.length : Nat) : Int) ++ (x ++ r)).take 4) ≤ ((cntB ((x.length : Nat) : Int) ++ (x ++ r)).drop 4).length := by rw [h1, hd]; simp
  have hy : okY (cntB ((x.length : Nat) : Int) ++ (x ++ r)) 0 1099511627776 := ⟨hk, hle⟩
  refine ⟨?_, ?_, ?_⟩
  · rw [rdY, if_pos hy, h1, hd]; exact take_app rfl
  · rw [rdYR, if_pos hy, h1, hd]; exact drop_app rfl
  · rw [rdYE, if_pos hk, if_pos hle]
theorem bits_bits (x : Nat) : bitsF (bitsF x) = bitsF x := by
  unfold bitsF
  by_cases h : nanB x = true
  · rw [if_pos h]; split <;> rfl
  · rw [if_neg h, if_neg h]
theorem back_num {x : Nat} (hx : x < 18446744073709551616) (r : List UInt8) : rdN (numB x ++ r) 0 = bitsF x ∧ rdR (numB x ++ r) 0 8 (floatE ((numB x ++ r).take 8)) = r ∧ rdE (numB x ++ r) 0 8 (floatE ((numB x ++ r).take 8)) = 0 := by
  have ht : (numB x ++ r).take 8 = numB x := take_app (num_len x)
  have hn : numL (numB x) = bitsF x := num_spell (Nat.lt_of_lt_of_le (bitsF_lt hx) (by decide))
  have h0 : floatE (numB x) = 0 := by
    unfold floatE
    rw [hn, if_neg]
    rintro ⟨h1, h2⟩
    by_cases h : nanB x = true
    · have : bitsF x = 9221120237041090561 := if_pos h
      rw [this] at h2
      exact h2 rfl
    · have : bitsF x = x := if_neg h
      rw [this] at h1
      exact h h1
  have hk : okT (numB x ++ r) 0 8 (floatE ((numB x ++ r).take 8)) := by rw [ht, h0]; exact okT_app (num_len x)
  refine ⟨by rw [rdN, if_pos hk, ht, hn], ?_, rdE_ok hk⟩
  rw [rdR_ok hk]; exact drop_app (num_len x)
section
variable {l : List Item} {k : Nat} {x : Item} (hk : k < l.length) (hx : l.getD k zI = x)
include hk hx
theorem rest_0 (h : x.f_Kind = 0) : restB l k = intB x.f_N ++ restB l (k + 1) := by rw [restB_succ hk, hx, itemB, if_pos h]
theorem rest_1 (h : x.f_Kind = 1) : restB l k = boolB (decide (x.f_N > 0)) ++ restB l (k + 1) := by rw [restB_succ hk, hx, itemB, if_neg (by omega), if_pos h]
theorem rest_2 (h : x.f_Kind = 2) : restB l k = cntB x.f_N ++ restB l (k + 1) := by rw [restB_succ hk, hx, itemB, if_neg (by omega), if_neg (by omega), if_pos h]
theorem rest_3 (h : x.f_Kind = 3) : restB l k = bytesB x.f_B ++ restB l (k + 1) := by rw [restB_succ hk, hx, itemB, if_neg (by omega), if_neg (by omega), if_neg (by omega), if_pos h]
theorem rest_4 (h : x.f_Kind = 4) : restB l k = numB x.f_X ++ restB l (k + 1) := by rw [restB_succ hk, hx, itemB, if_neg (by omega), if_neg (by omega), if_neg (by omega), if_neg (by omega), if_pos h]
theorem rest_else (h0 : ¬ x.f_Kind = 0) (h1 : ¬ x.f_Kind = 1) (h2 : ¬ x.f_Kind = 2) (h3 : ¬ x.f_Kind = 3) (h4 : ¬ x.f_Kind = 4) : restB l (k + 1) = restB l k := by
  rw [restB_succ hk, hx, itemB, if_neg h0, if_neg h1, if_neg h2, if_neg h3, if_neg h4, List.nil_append]
end
theorem rest_len {l : List Item} (hf : fewG szI 200 2000 l) (k : Nat) : (restB l k).length ≤ 401600 := by
  have h1 : putB l = runB l k ++ restB l k := by
    unfold runB restB putB
    rw [← List.flatMap_append, List.take_append_drop]
  have h2 : (putB l).length ≤ 401600 := by
    have := run_len hf l.length
    rw [run_all] at this
    have := hf.1
    omega
  rw [h1, List.length_append] at h2
  omega
theorem put_len {l : List Item} (hf : fewG szI 200 2000 l) : (putB l).length ≤ 401600 := rest_len hf 0

/-! ### Asking both -/

def askA (B : List UInt8) (a : Nat) (e : Int) (x : Item) : Nat := if x.f_Kind = 0 then rfA B a e 8 0 else if x.f_Kind = 1 then rfA B a e 1 (truthE ((B.drop a).take 1)) else if x.f_Kind = 2 then rfA B a e 4 (limE x.f_N ((B.drop a).take 4)) else if x.f_Kind = 3 then rfYA B a e x.f_N else if x.f_Kind = 4 then rfA B a e 8 (floatE ((B.drop a).take 8)) else if x.f_Kind = 5 then a else a
def askE (B : List UInt8) (a : Nat) (e : Int) (x : Item) : Int := if x.f_Kind = 0 then rdE (B.drop a) e 8 0 else if x.f_Kind = 1 then rdE (B.drop a) e 1 (truthE ((B.drop a).take 1)) else if x.f_Kind = 2 then rdE (B.drop a) e 4 (limE x.f_N ((B.drop a).take 4)) else if x.f_Kind = 3 then rdYE (B.drop a) e x.f_N else if x.f_Kind = 4 then rdE (B.drop a) e 8 (floatE ((B.drop a).take 8)) else if x.f_Kind = 5 then rdX (B.drop a) e else e
section
variable {B : List UInt8} {a : Nat} {e : Int} {x : Item}
theorem ask_0 (h : x.f_Kind = 0) : askA B a e x = rfA B a e 8 0 ∧ askE B a e x = rdE (B.drop a) e 8 0 := ⟨by rw [askA, if_pos h], by rw [askE, if_pos h]⟩
theorem ask_1 (h : x.f_Kind = 1) : askA B a e x = rfA B a e 1 (truthE ((B.drop a).take 1)) ∧ askE B a e x = rdE (B.drop a) e 1 (truthE ((B.drop a).take 1)) := ⟨by rw [askA, if_neg (by omega), if_pos h], by rw [askE, if_neg (by omega), if_pos h]⟩
theorem ask_2 (h : x.f_Kind = 2) : askA B a e x = rfA B a e 4 (limE x.f_N ((B.drop a).take 4)) ∧ askE B a e x = rdE (B.drop a) e 4 (limE x.f_N ((B.drop a).take 4)) := ⟨by rw [askA, if_neg (by omega), if_neg (by omega), if_pos h], by rw [askE, if_neg (by omega), if_neg (by omega), if_pos h]⟩
theorem ask_3 (h : x.f_Kind = 3) : askA B a e x = rfYA B a e x.f_N ∧ askE B a e x = rdYE (B.drop a) e x.f_N := ⟨by rw [askA, if_neg (by omega), if_neg (by omega), if_neg (by omega), if_pos h], by rw [askE, if_neg (by omega), if_neg (by omega), if_neg (by omega), if_pos h]⟩
theorem ask_4 (h : x.f_Kind = 4) : askA B a e x = rfA B a e 8 (floatE ((B.drop a).take 8)) ∧ askE B a e x = rdE (B.drop a) e 8 (floatE ((B.drop a).take 8)) := ⟨by rw [askA, if_neg (by omega), if_neg (by omega), if_neg (by omega), if_neg (by omega), if_pos h], by rw [askE, if_neg (by omega), if_neg (by omega), if_neg (by omega), if_neg (by omega), if_pos h]⟩
theorem ask_5 (h : x.f_Kind = 5) : askA B a e x = a ∧ askE B a e x = rdX (B.drop a) e := ⟨by rw [askA, if_neg (by omega), if_neg (by omega), if_neg (by omega), if_neg (by omega), if_neg (by omega), if_pos h], by rw [askE, if_neg (by omega), if_neg (by omega), if_neg (by omega), if_neg (by omega), if_neg (by omega), if_pos h]⟩
theorem ask_else (h0 : ¬ x.f_Kind = 0) (h1 : ¬ x.f_Kind = 1) (h2 : ¬ x.f_Kind = 2) (h3 : ¬ x.f_Kind = 3) (h4 : ¬ x.f_Kind = 4) (h5 : ¬ x.f_Kind = 5) : askA B a e x = a ∧ askE B a e x = e := ⟨by rw [askA, if_neg h0, if_neg h1, if_neg h2, if_neg h3, if_neg h4, if_neg h5], by rw [askE, if_neg h0, if_neg h1, if_neg h2, if_neg h3, if_neg h4, if_neg h5]⟩
theorem askA_le (ha : a ≤ B.length) : askA B a e x ≤ B.length := by
  unfold askA
  split
  · exact rfA_le ha
  · split
    · exact rfA_le ha
    · split
      · exact rfA_le ha
      · split
        · exact rfYA_le ha
        · split
          · exact rfA_le ha
          · split <;> exact ha
end
def noneK (l : List Item) : Nat → Nat × Int
  | 0 => (0, 0)
  | k + 1 => (askA [] (noneK l k).1 (noneK l k).2 (l.getD k zI), askE [] (noneK l k).1 (noneK l k).2 (l.getD k zI))
theorem none_le (l : List Item) : ∀ k, (noneK l k).1 ≤ ([] : List UInt8).length
  | 0 => Nat.le_refl _
  | k + 1 => askA_le (none_le l k)
end Go.Proofs.Ytafkobdlcahdbaa.Q
