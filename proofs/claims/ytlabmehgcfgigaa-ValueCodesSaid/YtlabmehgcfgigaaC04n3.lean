import Derived.Test.YtlabmehgcfgigaaC04n2
namespace Go.Proofs.Ytlabmehgcfgigaa.Q
set_option linter.unusedVariables false
set_option linter.unusedSimpArgs false
set_option maxRecDepth 100000

/-! ### Values -/

abbrev Val := api_Value
def eqS_api_Value (a b : api_Value) : Bool := [decide (a.f_Kind = b.f_Kind), decide (a.f_Int = b.f_Int), decide (a.f_Bool = b.f_Bool), decide (a.f_Text = b.f_Text), feqF a.f_Num b.f_Num].all id
def sameV (a b : Val) : Prop := a.f_Kind = b.f_Kind ∧ a.f_Int = b.f_Int ∧ a.f_Bool = b.f_Bool ∧ a.f_Text = b.f_Text ∧ bitsF a.f_Num = bitsF b.f_Num
instance (a b : Val) : Decidable (sameV a b) := inferInstanceAs (Decidable (_ ∧ _ ∧ _ ∧ _ ∧ _))
theorem feq_zero : feqF 0 0 = true := by decide +kernel
theorem eqS_iff {a b : Val} : eqS_api_Value a b = true ↔ a.f_Kind = b.f_Kind ∧ a.f_Int = b.f_Int ∧ a.f_Bool = b.f_Bool ∧ a.f_Text = b.f_Text ∧ feqF a.f_Num b.f_Num = true := by
  simp [eqS_api_Value]
theorem same_t {a b : Val} (h : eqS_api_Value ⟨a.f_Kind, a.f_Int, a.f_Bool, a.f_Text, 0⟩ ⟨b.f_Kind, b.f_Int, b.f_Bool, b.f_Text, 0⟩ = true) : (((bitsF a.f_Num : Nat) : Int) = ((bitsF b.f_Num : Nat) : Int)) ↔ sameV a b := by
  obtain ⟨h1, h2, h3, h4, _⟩ := eqS_iff.1 h
  exact ⟨fun h5 => ⟨h1, h2, h3, h4, Int.ofNat_inj.1 h5⟩, fun h5 => by rw [h5.2.2.2.2]⟩
theorem same_f {a b : Val} (h : eqS_api_Value ⟨a.f_Kind, a.f_Int, a.f_Bool, a.f_Text, 0⟩ ⟨b.f_Kind, b.f_Int, b.f_Bool, b.f_Text, 0⟩ = false) : ¬ sameV a b := fun h5 => by
  have := (eqS_iff (a := ⟨a.f_Kind, a.f_Int, a.f_Bool, a.f_Text, 0⟩) (b := ⟨b.f_Kind, b.f_Int, b.f_Bool, b.f_Text, 0⟩)).2 ⟨h5.1, h5.2.1, h5.2.2.1, h5.2.2.2.1, feq_zero⟩
  rw [this] at h
  cases h
def partV (v : Val) : Val := ⟨v.f_Kind, if v.f_Kind = 1 then v.f_Int else 0, if v.f_Kind = 2 then v.f_Bool else false, if v.f_Kind = 3 then v.f_Text else [], if v.f_Kind = 4 then v.f_Num else 0⟩
def goodV (v : Val) : Prop := (1 ≤ v.f_Kind ∧ v.f_Kind ≤ 4) ∧ sameV v (partV v) ∧ ((v.f_Text.length : Nat) : Int) ≤ 32
instance (v : Val) : Decidable (goodV v) := inferInstanceAs (Decidable (_ ∧ _ ∧ _))
theorem bits_zero : bitsF 0 = 0 := by decide +kernel
theorem good_iff {v : Val} : goodV v ↔ (1 ≤ v.f_Kind ∧ v.f_Kind ≤ 4) ∧ ((v.f_Text.length : Nat) : Int) ≤ 32 ∧ (v.f_Kind = 1 ∨ v.f_Int = 0) ∧ (v.f_Kind = 2 ∨ v.f_Bool = false) ∧ (v.f_Kind = 3 ∨ v.f_Text = []) ∧ (v.f_Kind = 4 ∨ ((bitsF v.f_Num : Nat) : Int) = 0) := by
  unfold goodV sameV partV
  simp only []
  have e : ∀ {p : Prop} [Decidable p] {α : Type} {x y : α}, x = (if p then x else y) ↔ p ∨ x = y := fun {p} _ {α} {x y} => by
    by_cases h : p <;> simp [h]
  have e5 : bitsF v.f_Num = bitsF (if v.f_Kind = 4 then v.f_Num else 0) ↔ v.f_Kind = 4 ∨ ((bitsF v.f_Num : Nat) : Int) = 0 := by
    by_cases h : v.f_Kind = 4
    · simp [h]
    · simp only [h, if_false, false_or, bits_zero]; omega
  rw [e, e, e, e5]
  constructor
  · rintro ⟨h1, ⟨_, h2, h3, h4, h5⟩, h6⟩; exact ⟨h1, h6, h2, h3, h4, h5⟩
  · rintro ⟨h1, h6, h2, h3, h4, h5⟩; exact ⟨h1, ⟨by first | rfl | trivial, h2, h3, h4, h5⟩, h6⟩
def bothV (a b : Val) : Prop := goodV a ∧ goodV b ∧ a.f_Kind = b.f_Kind
instance (a b : Val) : Decidable (bothV a b) := inferInstanceAs (Decidable (_ ∧ _ ∧ _))
def eqV (a b : Val) : Bool := if bothV a b then eqS_api_Value a b else false
def eqE (a b : Val) : Int := if bothV a b then 0 else 40
def lessV (a b : Val) : Bool := if bothV a b then (if a.f_Kind = 1 then decide (a.f_Int < b.f_Int) else if a.f_Kind = 3 then ltS a.f_Text b.f_Text else if a.f_Kind = 4 then fltF a.f_Num b.f_Num else false) else false
def lessE (a b : Val) : Int := if bothV a b then (if a.f_Kind = 2 then 40 else 0) else 40
def cmpI (a b : Int) : Int := if a < b then -1 else if a > b then 1 else 0
def sortF (x : Nat) : Int := if nanB x = true then -9223372036854775808 else if toI64 x < 0 then -9223372036854775808 - toI64 x - 1 else toI64 x
def rankF (x : Nat) : Nat := if nanB x = true then 0 else if x / 2 ^ 63 = 1 then 18446744073709551615 - x else x ||| 9223372036854775808
theorem or_top {x : Nat} (h : x < 9223372036854775808) : x ||| 9223372036854775808 = x + 9223372036854775808 := by
  have := Nat.two_pow_add_eq_or_of_lt (i := 63) (b := x) (by simpa using h) 1
  rw [Nat.or_comm]
  simp at this
  omega
theorem sort_rank {x : Nat} (h : x < 18446744073709551616) : sortF x = ((rankF x : Nat) : Int) - 9223372036854775808 := by
  unfold sortF rankF toI64
  split
  · rfl
  · by_cases h1 : x < 9223372036854775808
    · rw [if_pos h1, if_neg (by omega), if_neg (by omega), or_top h1]; omega
    · rw [if_neg h1, if_pos (by omega), if_pos (by omega)]; omega
def orderV (a b : Val) : Int := if a.f_Kind ≠ b.f_Kind then cmpI a.f_Kind b.f_Kind else if a.f_Kind = 1 then cmpI a.f_Int b.f_Int else if a.f_Kind = 3 then cmpS a.f_Text b.f_Text else if a.f_Kind = 4 then cmpI (sortF a.f_Num) (sortF b.f_Num) else if a.f_Kind = 2 then (if a.f_Bool = b.f_Bool then 0 else if a.f_Bool = true then 1 else -1) else 0
theorem cmpI_ne {a b : Int} : cmpI a b ≠ 0 ↔ a ≠ b := by unfold cmpI; split <;> (try split) <;> omega
theorem cmp_sort {x y : Nat} (hx : x < 18446744073709551616) (hy : y < 18446744073709551616) : cmpI (sortF x) (sortF y) = cmpI ((rankF x : Nat) : Int) ((rankF y : Nat) : Int) := by
  rw [sort_rank hx, sort_rank hy]; unfold cmpI; split <;> split <;> (try split) <;> (try split) <;> omega
theorem cmpS_lt {a b : List UInt8} (h : ltS a b = true) : cmpS a b = -1 := if_pos h
theorem ltS_tri (a b : List UInt8) : (ltS a b = true ∧ a ≠ b ∧ ltS b a = false) ∨ (a = b ∧ ltS a b = false ∧ ltS b a = false) ∨ (ltS b a = true ∧ a ≠ b ∧ ltS a b = false) := bytesLess_tri a b
theorem cmpS_gt {a b : List UInt8} (h : ltS b a = true) : cmpS a b = 1 := by
  rcases ltS_tri a b with ⟨h1, h2, h3⟩ | ⟨h1, h2, h3⟩ | ⟨h1, h2, h3⟩
  · rw [h] at h3; cases h3
  · rw [h] at h3; cases h3
  · unfold cmpS; rw [h3, if_neg (by decide), if_neg h2]
theorem cmpS_eq {a b : List UInt8} (h : ltS a b = false) (h' : ltS b a = false) : cmpS a b = 0 := by
  rcases ltS_tri a b with ⟨h1, h2, h3⟩ | ⟨h1, h2, h3⟩ | ⟨h1, h2, h3⟩
  · rw [h] at h1; cases h1
  · unfold cmpS; rw [h, if_neg (by decide), if_pos h1]
  · rw [h'] at h1; cases h1
def numV (x : Nat) : Val := ⟨4, 0, false, [], bitsF x⟩
def intV (n : Int) : Val := ⟨1, n, false, [], 0⟩
/-- Of good values whose kind is another one. -/
theorem num_zero {x : Nat} (h : ((bitsF x : Nat) : Int) = 0) : x = 0 := by
  unfold bitsF at h
  split at h <;> omega
theorem good_int {v : Val} (h : goodV v) (hk : v.f_Kind ≠ 1) : v.f_Int = 0 := by have := good_iff.1 h; simp_all
theorem good_bool {v : Val} (h : goodV v) (hk : v.f_Kind ≠ 2) : v.f_Bool = false := by have := good_iff.1 h; simp_all
theorem good_text {v : Val} (h : goodV v) (hk : v.f_Kind ≠ 3) : v.f_Text = [] := by have := good_iff.1 h; simp_all
theorem good_num {v : Val} (h : goodV v) (hk : v.f_Kind ≠ 4) : v.f_Num = 0 := by
  have h1 := (good_iff.1 h).2.2.2.2.2
  rcases h1 with h1 | h1
  · exact absurd h1 hk
  · exact num_zero h1
theorem flt_zero : fltF 0 0 = false := by decide +kernel
theorem eqV_parts {a b : Val} (h : bothV a b) : eqV a b = eqS_api_Value a b := if_pos h
theorem eqS_parts {a b : Val} (hk : a.f_Kind = b.f_Kind) : eqS_api_Value a b = (decide (a.f_Int = b.f_Int) && (decide (a.f_Bool = b.f_Bool) && (decide (a.f_Text = b.f_Text) && feqF a.f_Num b.f_Num))) := by
  simp [eqS_api_Value, hk]
theorem less_parts {a b : Val} (h : bothV a b) (hb : a.f_Kind ≠ 2) : lessV a b = (decide (a.f_Int < b.f_Int) || (ltS a.f_Text b.f_Text || fltF a.f_Num b.f_Num)) := by
  obtain ⟨ga, gb, hk⟩ := h
  have e : lessV a b = (if a.f_Kind = 1 then decide (a.f_Int < b.f_Int) else if a.f_Kind = 3 then ltS a.f_Text b.f_Text else if a.f_Kind = 4 then fltF a.f_Num b.f_Num else false) := if_pos ⟨ga, gb, hk⟩
  have hr := (good_iff.1 ga).1
  rw [e]
  have lt0 : ltS [] [] = false := rfl
  by_cases h1 : a.f_Kind = 1
  · rw [if_pos h1, good_text ga (by omega), good_text gb (by omega), good_num ga (by omega), good_num gb (by omega), lt0, flt_zero]; simp
  · rw [if_neg h1, good_int ga h1, good_int gb (by omega)]
    by_cases h3 : a.f_Kind = 3
    · rw [if_pos h3, good_num ga (by omega), good_num gb (by omega), flt_zero]; simp
    · rw [if_neg h3, good_text ga h3, good_text gb (by omega), if_pos (by omega), lt0]; simp

theorem order_bool {a b : Val} (hk : a.f_Kind = b.f_Kind) (h2 : a.f_Kind = 2) : orderV a b = if a.f_Bool = b.f_Bool then 0 else if a.f_Bool = true then 1 else -1 := by
  unfold orderV
  rw [if_neg (by simp [hk]), if_neg (by omega), if_neg (by omega), if_neg (by omega), if_pos h2]
theorem order_none {a b : Val} (hk : a.f_Kind = b.f_Kind) (h1 : ¬ a.f_Kind = 1) (h3 : ¬ a.f_Kind = 3) (h4 : ¬ a.f_Kind = 4) (h2 : ¬ a.f_Kind = 2) : orderV a b = 0 := by
  unfold orderV
  rw [if_neg (by simp [hk]), if_neg h1, if_neg h3, if_neg h4, if_neg h2]

/-! ### The order is total -/

theorem cmpI_neg (a b : Int) : cmpI a b = -cmpI b a := by unfold cmpI; split <;> split <;> (try split) <;> (try split) <;> omega
theorem cmpS_neg (a b : List UInt8) : cmpS a b = -cmpS b a := by
  rcases ltS_tri a b with ⟨h1, h2, h3⟩ | ⟨h1, h2, h3⟩ | ⟨h1, h2, h3⟩
  · rw [cmpS_lt h1, cmpS_gt h1]
  · rw [cmpS_eq h2 h3, cmpS_eq h3 h2]; rfl
  · rw [cmpS_gt h1, cmpS_lt h1]; rfl
theorem order_neg (a b : Val) : orderV a b = -orderV b a := by
  unfold orderV
  by_cases hk : a.f_Kind = b.f_Kind
  · simp only [hk, ne_eq, not_true_eq_false, if_false]
    split
    · exact cmpI_neg _ _
    · split
      · exact cmpS_neg _ _
      · split
        · exact cmpI_neg _ _
        · split
          · cases a.f_Bool <;> cases b.f_Bool <;> decide
          · rfl
  · have hk' : ¬ b.f_Kind = a.f_Kind := fun h => hk h.symm
    simp only [hk, hk', ne_eq, not_false_eq_true, if_true]
    exact cmpI_neg _ _
theorem order_self (a : Val) : orderV a a = 0 := by
  have := order_neg a a
  omega
/-- A place in the order: of numbers, or of texts. -/
theorem cmpI_trans {a b c : Int} (h1 : cmpI a b ≤ 0) (h2 : cmpI b c ≤ 0) : cmpI a c ≤ 0 ∧ (cmpI a b < 0 → cmpI a c < 0) := by
  unfold cmpI at *
  split at h1 <;> split at h2 <;> (try split at h1) <;> (try split at h2) <;> (constructor <;> split <;> (try split) <;> omega)
theorem cmpS_le {a b : List UInt8} : cmpS a b ≤ 0 ↔ ltS a b = true ∨ a = b := by
  rcases ltS_tri a b with ⟨h1, h2, h3⟩ | ⟨h1, h2, h3⟩ | ⟨h1, h2, h3⟩
  · rw [cmpS_lt h1]; simp [h1]
  · rw [cmpS_eq h2 h3]; simp [h1]
  · rw [cmpS_gt h1]; simp [h2, h3]
theorem cmpS_ltz {a b : List UInt8} : cmpS a b < 0 ↔ ltS a b = true := by
  rcases ltS_tri a b with ⟨h1, h2, h3⟩ | ⟨h1, h2, h3⟩ | ⟨h1, h2, h3⟩
  · rw [cmpS_lt h1]; simp [h1]
  · rw [cmpS_eq h2 h3]; simp [h2]
  · rw [cmpS_gt h1]; simp [h3]
theorem cmpS_trans {a b c : List UInt8} (h1 : cmpS a b ≤ 0) (h2 : cmpS b c ≤ 0) : cmpS a c ≤ 0 ∧ (cmpS a b < 0 → cmpS a c < 0) := by
  rw [cmpS_le] at h1 h2 ⊢
  rw [cmpS_ltz, cmpS_ltz]
  rcases h1 with h1 | rfl
  · rcases h2 with h2 | rfl
    · exact ⟨.inl (bytesLess_trans _ _ _ h1 h2), fun _ => bytesLess_trans _ _ _ h1 h2⟩
    · exact ⟨.inl h1, fun h => h⟩
  · refine ⟨h2, fun h => ?_⟩
    rcases ltS_tri a a with ⟨q1, q2, q3⟩ | ⟨q1, q2, q3⟩ | ⟨q1, q2, q3⟩
    · exact absurd rfl q2
    · rw [q2] at h; cases h
    · exact absurd rfl q2
def boolZ (b : Bool) : Int := if b then 1 else 0
theorem order_kind {a b : Val} (h : orderV a b ≤ 0) : a.f_Kind < b.f_Kind ∨ a.f_Kind = b.f_Kind := by
  by_cases hk : a.f_Kind = b.f_Kind
  · exact .inr hk
  · unfold orderV at h
    rw [if_pos hk] at h
    unfold cmpI at h
    split at h
    · exact .inl (by assumption)
    · split at h <;> omega
theorem order_lt {a b : Val} (h : a.f_Kind < b.f_Kind) : orderV a b = -1 := by
  unfold orderV
  rw [if_pos (by omega), cmpI, if_pos h]
theorem order_same {a b : Val} (h : a.f_Kind = b.f_Kind) : orderV a b = if a.f_Kind = 1 then cmpI a.f_Int b.f_Int else if a.f_Kind = 3 then cmpS a.f_Text b.f_Text else if a.f_Kind = 4 then cmpI (sortF a.f_Num) (sortF b.f_Num) else if a.f_Kind = 2 then cmpI (boolZ a.f_Bool) (boolZ b.f_Bool) else 0 := by
  unfold orderV
  rw [if_neg (by simp [h])]
  have e : (if a.f_Bool = b.f_Bool then (0 : Int) else if a.f_Bool = true then 1 else -1) = cmpI (boolZ a.f_Bool) (boolZ b.f_Bool) := by cases a.f_Bool <;> cases b.f_Bool <;> decide
  rw [e]
theorem order_trans {a b c : Val} (h1 : orderV a b ≤ 0) (h2 : orderV b c ≤ 0) : orderV a c ≤ 0 ∧ (orderV a b < 0 → orderV a c < 0) := by
  rcases order_kind h1 with k1 | k1
  · have : a.f_Kind < c.f_Kind := by rcases order_kind h2 with k2 | k2 <;> omega
    rw [order_lt this]; exact ⟨by decide, fun _ => by decide⟩
  · rcases order_kind h2 with k2 | k2
    · have : a.f_Kind < c.f_Kind := by omega
      rw [order_lt this]; exact ⟨by decide, fun _ => by decide⟩
    · rw [order_same k1] at h1 ⊢
      rw [order_same k2] at h2
      rw [order_same (k1.trans k2)]
      rw [← k1] at h2
      split
      · rename_i q; rw [if_pos q] at h1 h2; exact cmpI_trans h1 h2
      · rename_i q; rw [if_neg q] at h1 h2
        split
        · rename_i q; rw [if_pos q] at h1 h2; exact cmpS_trans h1 h2
        · rename_i q; rw [if_neg q] at h1 h2
          split
          · rename_i q; rw [if_pos q] at h1 h2; exact cmpI_trans h1 h2
          · rename_i q; rw [if_neg q] at h1 h2
            split
            · rename_i q; rw [if_pos q] at h1 h2; exact cmpI_trans h1 h2
            · exact ⟨by decide, fun h => h⟩
theorem cmpI_zero {a b : Int} : cmpI a b = 0 ↔ a = b := by unfold cmpI; split <;> (try split) <;> omega
theorem cmpS_zero {a b : List UInt8} : cmpS a b = 0 ↔ a = b := by
  rcases ltS_tri a b with ⟨h1, h2, h3⟩ | ⟨h1, h2, h3⟩ | ⟨h1, h2, h3⟩
  · rw [cmpS_lt h1]; simp [h2]
  · rw [cmpS_eq h2 h3]; simp [h1]
  · rw [cmpS_gt h1]; simp [h2]
theorem nan_9 : nanB 9221120237041090561 = true := by decide +kernel
theorem rank_inj {x y : Nat} (hx : x < 18446744073709551616) (hy : y < 18446744073709551616) : rankF x = rankF y ↔ bitsF x = bitsF y := by
  have hm : nanB 18446744073709551615 = true := by decide +kernel
  have key : ∀ z, z < 18446744073709551616 → ¬ nanB z = true → 0 < rankF z ∧ (rankF z = if z / 2 ^ 63 = 1 then 18446744073709551615 - z else z + 9223372036854775808) := fun z hz hn => by
    have hne : z ≠ 18446744073709551615 := fun e => hn (e ▸ hm)
    unfold rankF
    rw [if_neg hn]
    split
    · exact ⟨by omega, rfl⟩
    · rw [or_top (by omega)]; exact ⟨by omega, rfl⟩
  by_cases h1 : nanB x = true
  · by_cases h2 : nanB y = true
    · unfold rankF bitsF; rw [if_pos h1, if_pos h2, if_pos h1, if_pos h2]; simp
    · have := key y hy h2
      have hy' : y ≠ 9221120237041090561 := fun e => h2 (e ▸ nan_9)
      have e : rankF x = 0 := if_pos h1
      rw [e, show bitsF x = 9221120237041090561 from if_pos h1, show bitsF y = y from if_neg h2]
      omega
  · have hx' : x ≠ 9221120237041090561 := fun e => h1 (e ▸ nan_9)
    have k1 := key x hx h1
    by_cases h2 : nanB y = true
    · have e : rankF y = 0 := if_pos h2
      rw [e, show bitsF y = 9221120237041090561 from if_pos h2, show bitsF x = x from if_neg h1]
      omega
    · have k2 := key y hy h2
      rw [k1.2, k2.2, show bitsF y = y from if_neg h2, show bitsF x = x from if_neg h1]
      split <;> split <;> omega
/-- Good values of which neither is ahead are the same. -/
theorem order_good {a b : Val} (ga : goodV a) (gb : goodV b) (ha : a.f_Num < 18446744073709551616) (hb : b.f_Num < 18446744073709551616) : orderV a b = 0 ↔ sameV a b := by
  have ra := (good_iff.1 ga).1
  by_cases hk : a.f_Kind = b.f_Kind
  · rw [order_same hk]
    unfold sameV
    by_cases h1 : a.f_Kind = 1
    · rw [if_pos h1, cmpI_zero, good_text ga (by omega), good_text gb (by omega), good_num ga (by omega), good_num gb (by omega), good_bool ga (by omega), good_bool gb (by omega)]
      simp [hk]
    · rw [if_neg h1, good_int ga h1, good_int gb (by omega)]
      by_cases h3 : a.f_Kind = 3
      · rw [if_pos h3, cmpS_zero, good_num ga (by omega), good_num gb (by omega), good_bool ga (by omega), good_bool gb (by omega)]
        simp [hk]
      · rw [if_neg h3, good_text ga h3, good_text gb (by omega)]
        by_cases h4 : a.f_Kind = 4
        · rw [if_pos h4, cmpI_zero, sort_rank ha, sort_rank hb, good_bool ga (by omega), good_bool gb (by omega), ← rank_inj ha hb]
          constructor
          · intro h; exact ⟨hk, rfl, rfl, rfl, by omega⟩
          · intro h; rw [h.2.2.2.2]
        · rw [if_neg h4, if_pos (by omega), cmpI_zero, good_num ga h4, good_num gb (by omega)]
          have : boolZ a.f_Bool = boolZ b.f_Bool ↔ a.f_Bool = b.f_Bool := by cases a.f_Bool <;> cases b.f_Bool <;> decide
          rw [this]
          simp [hk]
  · unfold sameV orderV
    rw [if_pos hk, cmpI_zero]
    simp [hk]
def shortV (v : Val) : Prop := v.f_Text.length ≤ 1000
instance (v : Val) : Decidable (shortV v) := inferInstanceAs (Decidable (_ ≤ _))
end Go.Proofs.Ytlabmehgcfgigaa.Q
namespace Go.Proofs.Ytlabmehgcfgigaa.Q
open Go Go.RowKit
set_option linter.unusedVariables false
set_option linter.unusedSimpArgs false
set_option maxRecDepth 100000
set_option maxHeartbeats 4000000
-- quaestor/value.code
theorem value_code (x : Nat) : Holds Try.prog 47 ⟨[dv (.float .f64 x)], [], dv (.int .u64 ((bitsF x : Nat) : Int)), []⟩ := by
  refine Holds.of Try.func47 rfl (N := 7) Try.ntmps47 rfl fun w0 B0 S0 U0 => ?_
  show T _ (mkBase 7 0 w0 S0 U0 B0) ⟨[dv (.float .f64 x)], []⟩ _ _
  refine T.seq ?_
  refine xR [] (by kernel_rfl) (by kernel_rfl) ?_
  refine nT ?_
  refine T.seq ?_
  refine T.seq ?_
  refine xR [hR 1 rfl rfl (r_call (math_IsNaN x ) Try.func83 rfl (by decide) [] [] (l := [(.tmp 3, dv (.float .f64 x))]) [] rfl 0 0 rfl rfl rfl rfl rfl rfl rfl rfl rfl ⟨.inl ⟨rfl, rfl⟩, trivial⟩ rfl (fun b hb => by cases hb) (.inl rfl) (lt_of rfl) trivial)] (by kernel_rfl) (by kernel_rfl) ?_
  refine nT ?_
  by_cases hq1 : (nanB x) = true
  · refine T.condT (by kernel_rfl) hq1 ?_
    refine T.seq ?_
    refine xR [] (by kernel_rfl) (by kernel_rfl) ?_
    refine nT ?_
    refine T.ret ?_
    refine rT ?_
    exact tE (.inl rfl) [.t 2 (.one (.d (.val (.int .u64 9221120237041090561))))] ⟨⟨rfl, by kernel_rfl⟩, trivial⟩ [] (by have e1 : (((bitsF x : Nat) : Int) : Int) = 9221120237041090561 := (by (simp [bitsF, *]; done)); have hE := congrArg (fun (q1 : Int) => (dv (.int .u64 q1) : AV)) e1; exact hE) rfl rfl rfl rfl rfl trivial
  · replace hq1 := Bool.eq_false_iff.2 hq1
    refine T.condF (by kernel_rfl) hq1 ?_
    refine T.skip ?_
    refine nT ?_
    refine T.seq ?_
    refine xR [hR 1 rfl rfl (r_ext1 (u := .float .f64 x) (v := .int .u64 ((x : Nat) : Int)) (e := Extern.MathFloatBits.float64bits) Try.func84 (by kernel_rfl) (by kernel_rfl) (by kernel_rfl) (by kernel_rfl) (fun w => rfl) (lt_of rfl) trivial)] (by kernel_rfl) (by kernel_rfl) ?_
    refine nT ?_
    refine T.ret ?_
    exact tE (.inl rfl) [.t 2 (.one (.d (.val (.int .u64 ((x : Nat) : Int)))))] ⟨⟨rfl, by kernel_rfl⟩, trivial⟩ [] (by have e1 : (((bitsF x : Nat) : Int) : Int) = ((x : Nat) : Int) := (by (simp [bitsF, *]; done)); have hE := congrArg (fun (q1 : Int) => (dv (.int .u64 q1) : AV)) e1; exact hE) rfl rfl rfl rfl rfl trivial
end Go.Proofs.Ytlabmehgcfgigaa.Q
namespace Go.Proofs.Ytlabmehgcfgigaa.Q
open Go Go.RowKit
set_option linter.unusedVariables false
set_option linter.unusedSimpArgs false
set_option maxRecDepth 100000
set_option maxHeartbeats 4000000
theorem iat_22 : Try.prog.info? 22 = some Try.t22 := by kernel_rfl
theorem fld_24_4 : FieldAt Try.prog 24 4 4 := ⟨_, _, _, Try.underlying24, rfl, iat_22, by decide, rfl⟩
theorem wide_22 : Wide Try.prog 22 none := ⟨_, Try.underlying22, (fun _ h => by cases h), (fun _ _ h => by cases h)⟩
theorem cells_22 : Cells Try.prog 22 1 := ⟨_, iat_22, rfl⟩
theorem iat_24 : Try.prog.info? 24 = some Try.t24 := by kernel_rfl
theorem wide_24 : Wide Try.prog 24 (some 5) := ⟨_, _, Try.underlying24, .inl ⟨_, rfl⟩, iat_24, rfl⟩
theorem seqF_24 : SEqF Try.prog 24 (fun x : api_Value => .agg #[.int .i64 x.f_Kind, .int .i64 x.f_Int, .bool x.f_Bool, strV x.f_Text, .float .f64 x.f_Num]) eqS_api_Value := seqF_of (g := fun x : api_Value => #[.int .i64 x.f_Kind, .int .i64 x.f_Int, .bool x.f_Bool, strV x.f_Text, .float .f64 x.f_Num]) (bs' := fun a b => [decide (a.f_Kind = b.f_Kind), decide (a.f_Int = b.f_Int), decide (a.f_Bool = b.f_Bool), decide (a.f_Text = b.f_Text), feqF a.f_Num b.f_Num]) Try.underlying24 (by kernel_rfl) (by kernel_rfl) (fun a b => ⟨by decide, ⟨_, _, rfl, rfl, .int Try.underlying3⟩, ⟨by decide, ⟨_, _, rfl, rfl, .int Try.underlying2⟩, ⟨by decide, ⟨_, _, rfl, rfl, .bool Try.underlying4⟩, ⟨by decide, ⟨_, _, rfl, rfl, .str Try.underlying9⟩, ⟨by decide, ⟨_, _, rfl, rfl, .flt Try.underlying22⟩, trivial⟩⟩⟩⟩⟩) (fun a b => rfl)
-- quaestor/value.Same
theorem value_Same (a : api_Value) (b : api_Value) : Holds Try.prog 15 ⟨[.tv (.agg [.d (.val (.int .i64 a.f_Kind)), .d (.val (.int .i64 a.f_Int)), .d (.val (.bool a.f_Bool)), .d (.val (strV a.f_Text)), .d (.val (.float .f64 a.f_Num))]), .tv (.agg [.d (.val (.int .i64 b.f_Kind)), .d (.val (.int .i64 b.f_Int)), .d (.val (.bool b.f_Bool)), .d (.val (strV b.f_Text)), .d (.val (.float .f64 b.f_Num))])], [], dv (.bool (decide (sameV a b))), []⟩ := by
  refine Holds.of Try.func15 rfl (N := 23) Try.ntmps15 rfl fun w0 B0 S0 U0 => ?_
  show T _ (mkBase 23 0 w0 S0 U0 B0) ⟨[.tv (.agg [.d (.val (.int .i64 a.f_Kind)), .d (.val (.int .i64 a.f_Int)), .d (.val (.bool a.f_Bool)), .d (.val (strV a.f_Text)), .d (.val (.float .f64 a.f_Num))]), .tv (.agg [.d (.val (.int .i64 b.f_Kind)), .d (.val (.int .i64 b.f_Int)), .d (.val (.bool b.f_Bool)), .d (.val (strV b.f_Text)), .d (.val (.float .f64 b.f_Num))])], []⟩ _ _
  refine T.seq ?_
  refine xR [] (by kernel_rfl) (by kernel_rfl) ?_
  refine nT ?_
  refine T.seq ?_
  refine xD [[], [0], [0, 1], [], [3], [0, 1, 2, 3, 4], [0, 1, 2, 3, 4, 5], [0, 1, 2, 3, 4, 5, 6]] [hR 2 rfl rfl (r_call (value_code a.f_Num ) Try.func47 rfl (by decide) [] [] (l := [(.tmp 8, dv (.float .f64 a.f_Num))]) [] rfl 0 0 rfl rfl rfl rfl rfl rfl rfl rfl rfl ⟨.inl ⟨rfl, rfl⟩, trivial⟩ rfl (fun b hb => by cases hb) (.inl rfl) (lt_of rfl) trivial),
    hR 5 rfl rfl (r_call (value_code b.f_Num ) Try.func47 rfl (by decide) [] [] (l := [(.tmp 11, dv (.float .f64 b.f_Num))]) [] rfl 0 0 rfl rfl rfl rfl rfl rfl rfl rfl rfl ⟨.inl ⟨rfl, rfl⟩, trivial⟩ rfl (fun b hb => by cases hb) (.inl rfl) (lt_of rfl) trivial)] (by kernel_rfl) (by kernel_rfl) (by kernel_rfl) (by kernel_rfl) (by kernel_rfl) (by kernel_rfl) ?_
  refine nT ?_
  refine T.seq ?_
  refine xR [] (by kernel_rfl) (by kernel_rfl) ?_
  refine nT ?_
  refine T.seq ?_
  by_cases hq1 : (eqS_api_Value (api_Value.mk a.f_Kind a.f_Int a.f_Bool a.f_Text 0) (api_Value.mk b.f_Kind b.f_Int b.f_Bool b.f_Text 0)) = true
  · refine xR [hR 2 rfl rfl (r_eqStF (ax := .tv (.agg [.d (.val (.int .i64 a.f_Kind)), .d (.val (.int .i64 a.f_Int)), .d (.val (.bool a.f_Bool)), .d (.val (strV a.f_Text)), .d (.val (.float .f64 0))])) (ay := .tv (.agg [.d (.val (.int .i64 b.f_Kind)), .d (.val (.int .i64 b.f_Int)), .d (.val (.bool b.f_Bool)), .d (.val (strV b.f_Text)), .d (.val (.float .f64 0))])) (a := (api_Value.mk a.f_Kind a.f_Int a.f_Bool a.f_Text 0)) (b := (api_Value.mk b.f_Kind b.f_Int b.f_Bool b.f_Text 0)) seqF_24 ⟨[.int .i64 a.f_Kind, .int .i64 a.f_Int, .bool a.f_Bool, strV a.f_Text, .float .f64 0], rfl, rfl⟩ ⟨[.int .i64 b.f_Kind, .int .i64 b.f_Int, .bool b.f_Bool, strV b.f_Text, .float .f64 0], rfl, rfl⟩ (lt_of rfl) trivial),
      hY 4 hq1,
      hY 5 hq1,
      hY 6 hq1,
      hP 7 hq1] (by kernel_rfl) (by kernel_rfl) ?_
    refine nT ?_
    refine T.ret ?_
    exact tE (.inl rfl) [.t 4 (.one (.d (.val (.bool (decide (((bitsF a.f_Num : Nat) : Int) = ((bitsF b.f_Num : Nat) : Int)))))))] ⟨⟨rfl, by kernel_rfl⟩, trivial⟩ [] (by have e1 : ((decide (sameV a b)) : Bool) = (decide (((bitsF a.f_Num : Nat) : Int) = ((bitsF b.f_Num : Nat) : Int))) := (by exact (decide_eq_decide.2 (same_t hq1)).symm); have hE := congrArg (fun (q1 : Bool) => (dv (.bool q1) : AV)) e1; exact hE) rfl rfl rfl rfl rfl trivial
  · replace hq1 := Bool.eq_false_iff.2 hq1
    refine xR [hR 2 rfl rfl (r_eqStF (ax := .tv (.agg [.d (.val (.int .i64 a.f_Kind)), .d (.val (.int .i64 a.f_Int)), .d (.val (.bool a.f_Bool)), .d (.val (strV a.f_Text)), .d (.val (.float .f64 0))])) (ay := .tv (.agg [.d (.val (.int .i64 b.f_Kind)), .d (.val (.int .i64 b.f_Int)), .d (.val (.bool b.f_Bool)), .d (.val (strV b.f_Text)), .d (.val (.float .f64 0))])) (a := (api_Value.mk a.f_Kind a.f_Int a.f_Bool a.f_Text 0)) (b := (api_Value.mk b.f_Kind b.f_Int b.f_Bool b.f_Text 0)) seqF_24 ⟨[.int .i64 a.f_Kind, .int .i64 a.f_Int, .bool a.f_Bool, strV a.f_Text, .float .f64 0], rfl, rfl⟩ ⟨[.int .i64 b.f_Kind, .int .i64 b.f_Int, .bool b.f_Bool, strV b.f_Text, .float .f64 0], rfl, rfl⟩ (lt_of rfl) trivial),
      hN 4 true hq1,
      hN 5 true hq1,
      hN 6 true hq1,
      hP 7 hq1] (by kernel_rfl) (by kernel_rfl) ?_
    refine nT ?_
    refine T.ret ?_
    exact tE (.inl rfl) [.t 4 (.one (.d (.val (.bool false))))] ⟨⟨rfl, by kernel_rfl⟩, trivial⟩ [] (by have e1 : ((decide (sameV a b)) : Bool) = false := (by exact decide_eq_false (same_f hq1)); have hE := congrArg (fun (q1 : Bool) => (dv (.bool q1) : AV)) e1; exact hE) rfl rfl rfl rfl rfl trivial
end Go.Proofs.Ytlabmehgcfgigaa.Q
namespace Go.Proofs.Ytlabmehgcfgigaa.Q
open Go Go.RowKit
set_option linter.unusedVariables false
set_option linter.unusedSimpArgs false
set_option maxRecDepth 100000
set_option maxHeartbeats 4000000
theorem zero_24 : Zero Try.prog 24 [.int .i64 0, .int .i64 0, .bool false, strV [], .float .f64 0] := ⟨_, _, iat_24, rfl, rfl⟩
theorem fld_24_0 : FieldAt Try.prog 24 0 0 := ⟨_, _, _, Try.underlying24, rfl, iat_3, by decide, rfl⟩
theorem iat_2 : Try.prog.info? 2 = some Try.t2 := by kernel_rfl
theorem iat_4 : Try.prog.info? 4 = some Try.t4 := by kernel_rfl
theorem iat_9 : Try.prog.info? 9 = some Try.t9 := by kernel_rfl
theorem places_24 : Places Try.prog 24 [(0, 1), (1, 1), (2, 1), (3, 1), (4, 1)] := ⟨_, Try.underlying24, ⟨⟨rfl, _, iat_3, rfl⟩, ⟨⟨rfl, _, iat_2, rfl⟩, ⟨⟨rfl, _, iat_4, rfl⟩, ⟨⟨rfl, _, iat_9, rfl⟩, ⟨⟨rfl, _, iat_22, rfl⟩, trivial⟩⟩⟩⟩⟩⟩
theorem cells_24 : Cells Try.prog 24 5 := ⟨_, iat_24, rfl⟩
theorem fld_24_1 : FieldAt Try.prog 24 1 1 := ⟨_, _, _, Try.underlying24, rfl, iat_2, by decide, rfl⟩
theorem wide_2 : Wide Try.prog 2 none := ⟨_, Try.underlying2, (fun _ h => by cases h), (fun _ _ h => by cases h)⟩
theorem cells_2 : Cells Try.prog 2 1 := ⟨_, iat_2, rfl⟩
theorem fld_24_2 : FieldAt Try.prog 24 2 2 := ⟨_, _, _, Try.underlying24, rfl, iat_4, by decide, rfl⟩
theorem wide_4 : Wide Try.prog 4 none := ⟨_, Try.underlying4, (fun _ h => by cases h), (fun _ _ h => by cases h)⟩
theorem cells_4 : Cells Try.prog 4 1 := ⟨_, iat_4, rfl⟩
theorem fld_24_3 : FieldAt Try.prog 24 3 3 := ⟨_, _, _, Try.underlying24, rfl, iat_9, by decide, rfl⟩
theorem wide_9 : Wide Try.prog 9 none := ⟨_, Try.underlying9, (fun _ h => by cases h), (fun _ _ h => by cases h)⟩
theorem cells_9 : Cells Try.prog 9 1 := ⟨_, iat_9, rfl⟩
-- quaestor/value.part
theorem value_part (a : api_Value) : Holds Try.prog 59 ⟨[.tv (.agg [.d (.val (.int .i64 a.f_Kind)), .d (.val (.int .i64 a.f_Int)), .d (.val (.bool a.f_Bool)), .d (.val (strV a.f_Text)), .d (.val (.float .f64 a.f_Num))])], [], .tup [.agg [.d (.val (.int .i64 (partV a).f_Kind)), .d (.val (.int .i64 (partV a).f_Int)), .d (.val (.bool (partV a).f_Bool)), .d (.val (strV (partV a).f_Text)), .d (.val (.float .f64 (partV a).f_Num))], .one (.d (.val (.bool (decide (1 ≤ a.f_Kind ∧ a.f_Kind ≤ 4)))))], []⟩ := by
  refine Holds.of Try.func59 rfl (N := 32) Try.ntmps59 rfl fun w0 B0 S0 U0 => ?_
  show T _ (mkBase 32 0 w0 S0 U0 B0) ⟨[.tv (.agg [.d (.val (.int .i64 a.f_Kind)), .d (.val (.int .i64 a.f_Int)), .d (.val (.bool a.f_Bool)), .d (.val (strV a.f_Text)), .d (.val (.float .f64 a.f_Num))])], []⟩ _ _
  refine T.seq ?_
  refine xR [] (by kernel_rfl) (by kernel_rfl) ?_
  refine nT ?_
  refine T.seq ?_
  refine xR [] (by kernel_rfl) (by kernel_rfl) ?_
  refine nT ?_
  refine T.seq ?_
  refine T.seq ?_
  refine xR [] (by kernel_rfl) (by kernel_rfl) ?_
  refine nT ?_
  refine T.block ?_
  refine T.seq ?_
  refine xR [] (by kernel_rfl) (by kernel_rfl) ?_
  refine nT ?_
  by_cases hq1 : a.f_Kind = 1
  · refine T.condT (by kernel_rfl) (decide_eq_true hq1) ?_
    refine xR [] (by kernel_rfl) (by kernel_rfl) ?_
    refine nB ?_
    refine nT ?_
    refine T.seq ?_
    refine xR [] (by kernel_rfl) (by kernel_rfl) ?_
    refine nT ?_
    refine T.ret ?_
    exact tE (.inl rfl) [.c 2 1 24 0 24 [.d (.val (.int .i64 a.f_Kind)), .d (.val (.int .i64 a.f_Int)), .d (.val (.bool false)), .d (.val (strV [])), .d (.val (.float .f64 0))] (.agg [.d (.val (.int .i64 a.f_Kind)), .d (.val (.int .i64 a.f_Int)), .d (.val (.bool false)), .d (.val (strV [])), .d (.val (.float .f64 0))]), .t 3 (.one (.d (.val (.bool true))))] ⟨⟨rfl, rfl, by kernel_rfl, by kernel_rfl, .inl ⟨5, wide_24, rfl, Nat.le_of_ble_eq_true rfl⟩⟩, ⟨⟨rfl, by kernel_rfl⟩, trivial⟩⟩ [] (by have e1 : ((partV a).f_Kind : Int) = a.f_Kind := (by rfl); have e2 : ((partV a).f_Int : Int) = a.f_Int := (by (simp [partV, *]; done)); have e3 : ((partV a).f_Bool : Bool) = false := (by (simp [partV, *]; done)); have e4 : ((partV a).f_Text : List UInt8) = [] := (by (simp [partV, *]; done)); have e5 : ((partV a).f_Num : Nat) = 0 := (by (simp [partV, *]; done)); have e6 : ((decide (1 ≤ a.f_Kind ∧ a.f_Kind ≤ 4)) : Bool) = true := (by (simp [partV, *]; done)); have hE := congr (congr (congr (congr (congr (congrArg (fun (q1 : Int) (q2 : Int) (q3 : Bool) (q4 : List UInt8) (q5 : Nat) (q6 : Bool) => (.tup [.agg [.d (.val (.int .i64 q1)), .d (.val (.int .i64 q2)), .d (.val (.bool q3)), .d (.val (strV q4)), .d (.val (.float .f64 q5))], .one (.d (.val (.bool q6)))] : AV)) e1) e2) e3) e4) e5) e6; exact hE) rfl rfl rfl rfl rfl trivial
  · refine T.condF (by kernel_rfl) (decide_eq_false hq1) ?_
    refine T.seq ?_
    refine xR [] (by kernel_rfl) (by kernel_rfl) ?_
    refine nT ?_
    by_cases hq2 : a.f_Kind = 2
    · refine T.condT (by kernel_rfl) (decide_eq_true hq2) ?_
      refine xR [] (by kernel_rfl) (by kernel_rfl) ?_
      refine nB ?_
      refine nT ?_
      refine T.seq ?_
      refine xR [] (by kernel_rfl) (by kernel_rfl) ?_
      refine nT ?_
      refine T.ret ?_
      exact tE (.inl rfl) [.c 2 1 24 0 24 [.d (.val (.int .i64 a.f_Kind)), .d (.val (.int .i64 0)), .d (.val (.bool a.f_Bool)), .d (.val (strV [])), .d (.val (.float .f64 0))] (.agg [.d (.val (.int .i64 a.f_Kind)), .d (.val (.int .i64 0)), .d (.val (.bool a.f_Bool)), .d (.val (strV [])), .d (.val (.float .f64 0))]), .t 3 (.one (.d (.val (.bool true))))] ⟨⟨rfl, rfl, by kernel_rfl, by kernel_rfl, .inl ⟨5, wide_24, rfl, Nat.le_of_ble_eq_true rfl⟩⟩, ⟨⟨rfl, by kernel_rfl⟩, trivial⟩⟩ [] (by have e1 : ((partV a).f_Kind : Int) = a.f_Kind := (by rfl); have e2 : ((partV a).f_Int : Int) = 0 := (by (simp [partV, *]; done)); have e3 : ((partV a).f_Bool : Bool) = a.f_Bool := (by (simp [partV, *]; done)); have e4 : ((partV a).f_Text : List UInt8) = [] := (by (simp [partV, *]; done)); have e5 : ((partV a).f_Num : Nat) = 0 := (by (simp [partV, *]; done)); have e6 : ((decide (1 ≤ a.f_Kind ∧ a.f_Kind ≤ 4)) : Bool) = true := (by (simp [partV, *]; done)); have hE := congr (congr (congr (congr (congr (congrArg (fun (q1 : Int) (q2 : Int) (q3 : Bool) (q4 : List UInt8) (q5 : Nat) (q6 : Bool) => (.tup [.agg [.d (.val (.int .i64 q1)), .d (.val (.int .i64 q2)), .d (.val (.bool q3)), .d (.val (strV q4)), .d (.val (.float .f64 q5))], .one (.d (.val (.bool q6)))] : AV)) e1) e2) e3) e4) e5) e6; exact hE) rfl rfl rfl rfl rfl trivial
    · refine T.condF (by kernel_rfl) (decide_eq_false hq2) ?_
      refine T.seq ?_
      refine xR [] (by kernel_rfl) (by kernel_rfl) ?_
      refine nT ?_
      by_cases hq3 : a.f_Kind = 3
      · refine T.condT (by kernel_rfl) (decide_eq_true hq3) ?_
        refine xR [] (by kernel_rfl) (by kernel_rfl) ?_
        refine nB ?_
        refine nT ?_
        refine T.seq ?_
        refine xR [] (by kernel_rfl) (by kernel_rfl) ?_
        refine nT ?_
        refine T.ret ?_
        exact tE (.inl rfl) [.c 2 1 24 0 24 [.d (.val (.int .i64 a.f_Kind)), .d (.val (.int .i64 0)), .d (.val (.bool false)), .d (.val (strV a.f_Text)), .d (.val (.float .f64 0))] (.agg [.d (.val (.int .i64 a.f_Kind)), .d (.val (.int .i64 0)), .d (.val (.bool false)), .d (.val (strV a.f_Text)), .d (.val (.float .f64 0))]), .t 3 (.one (.d (.val (.bool true))))] ⟨⟨rfl, rfl, by kernel_rfl, by kernel_rfl, .inl ⟨5, wide_24, rfl, Nat.le_of_ble_eq_true rfl⟩⟩, ⟨⟨rfl, by kernel_rfl⟩, trivial⟩⟩ [] (by have e1 : ((partV a).f_Kind : Int) = a.f_Kind := (by rfl); have e2 : ((partV a).f_Int : Int) = 0 := (by (simp [partV, *]; done)); have e3 : ((partV a).f_Bool : Bool) = false := (by (simp [partV, *]; done)); have e4 : ((partV a).f_Text : List UInt8) = a.f_Text := (by (simp [partV, *]; done)); have e5 : ((partV a).f_Num : Nat) = 0 := (by (simp [partV, *]; done)); have e6 : ((decide (1 ≤ a.f_Kind ∧ a.f_Kind ≤ 4)) : Bool) = true := (by (simp [partV, *]; done)); have hE := congr (congr (congr (congr (congr (congrArg (fun (q1 : Int) (q2 : Int) (q3 : Bool) (q4 : List UInt8) (q5 : Nat) (q6 : Bool) => (.tup [.agg [.d (.val (.int .i64 q1)), .d (.val (.int .i64 q2)), .d (.val (.bool q3)), .d (.val (strV q4)), .d (.val (.float .f64 q5))], .one (.d (.val (.bool q6)))] : AV)) e1) e2) e3) e4) e5) e6; exact hE) rfl rfl rfl rfl rfl trivial
      · refine T.condF (by kernel_rfl) (decide_eq_false hq3) ?_
        refine T.seq ?_
        refine xR [] (by kernel_rfl) (by kernel_rfl) ?_
        refine nT ?_
        by_cases hq4 : a.f_Kind = 4
        · refine T.condT (by kernel_rfl) (decide_eq_true hq4) ?_
          refine xR [] (by kernel_rfl) (by kernel_rfl) ?_
          refine nB ?_
          refine nT ?_
          refine T.seq ?_
          refine xR [] (by kernel_rfl) (by kernel_rfl) ?_
          refine nT ?_
          refine T.ret ?_
          exact tE (.inl rfl) [.c 2 1 24 0 24 [.d (.val (.int .i64 a.f_Kind)), .d (.val (.int .i64 0)), .d (.val (.bool false)), .d (.val (strV [])), .d (.val (.float .f64 a.f_Num))] (.agg [.d (.val (.int .i64 a.f_Kind)), .d (.val (.int .i64 0)), .d (.val (.bool false)), .d (.val (strV [])), .d (.val (.float .f64 a.f_Num))]), .t 3 (.one (.d (.val (.bool true))))] ⟨⟨rfl, rfl, by kernel_rfl, by kernel_rfl, .inl ⟨5, wide_24, rfl, Nat.le_of_ble_eq_true rfl⟩⟩, ⟨⟨rfl, by kernel_rfl⟩, trivial⟩⟩ [] (by have e1 : ((partV a).f_Kind : Int) = a.f_Kind := (by rfl); have e2 : ((partV a).f_Int : Int) = 0 := (by (simp [partV, *]; done)); have e3 : ((partV a).f_Bool : Bool) = false := (by (simp [partV, *]; done)); have e4 : ((partV a).f_Text : List UInt8) = [] := (by (simp [partV, *]; done)); have e5 : ((partV a).f_Num : Nat) = a.f_Num := (by (simp [partV, *]; done)); have e6 : ((decide (1 ≤ a.f_Kind ∧ a.f_Kind ≤ 4)) : Bool) = true := (by (simp [partV, *]; done)); have hE := congr (congr (congr (congr (congr (congrArg (fun (q1 : Int) (q2 : Int) (q3 : Bool) (q4 : List UInt8) (q5 : Nat) (q6 : Bool) => (.tup [.agg [.d (.val (.int .i64 q1)), .d (.val (.int .i64 q2)), .d (.val (.bool q3)), .d (.val (strV q4)), .d (.val (.float .f64 q5))], .one (.d (.val (.bool q6)))] : AV)) e1) e2) e3) e4) e5) e6; exact hE) rfl rfl rfl rfl rfl trivial
        · refine T.condF (by kernel_rfl) (decide_eq_false hq4) ?_
          refine T.seq ?_
          refine xR [] (by kernel_rfl) (by kernel_rfl) ?_
          refine nT ?_
          refine T.ret ?_
          refine rB ?_
          refine rT ?_
          exact tE (.inl rfl) [.c 2 1 24 0 24 [.d (.val (.int .i64 a.f_Kind)), .d (.val (.int .i64 0)), .d (.val (.bool false)), .d (.val (strV [])), .d (.val (.float .f64 0))] (.agg [.d (.val (.int .i64 a.f_Kind)), .d (.val (.int .i64 0)), .d (.val (.bool false)), .d (.val (strV [])), .d (.val (.float .f64 0))]), .t 3 (.one (.d (.val (.bool false))))] ⟨⟨rfl, rfl, by kernel_rfl, by kernel_rfl, .inl ⟨5, wide_24, rfl, Nat.le_of_ble_eq_true rfl⟩⟩, ⟨⟨rfl, by kernel_rfl⟩, trivial⟩⟩ [] (by have e1 : ((partV a).f_Kind : Int) = a.f_Kind := (by rfl); have e2 : ((partV a).f_Int : Int) = 0 := (by (simp [partV, *]; done)); have e3 : ((partV a).f_Bool : Bool) = false := (by (simp [partV, *]; done)); have e4 : ((partV a).f_Text : List UInt8) = [] := (by (simp [partV, *]; done)); have e5 : ((partV a).f_Num : Nat) = 0 := (by (simp [partV, *]; done)); have e6 : ((decide (1 ≤ a.f_Kind ∧ a.f_Kind ≤ 4)) : Bool) = false := (by exact decide_eq_false (by omega)); have hE := congr (congr (congr (congr (congr (congrArg (fun (q1 : Int) (q2 : Int) (q3 : Bool) (q4 : List UInt8) (q5 : Nat) (q6 : Bool) => (.tup [.agg [.d (.val (.int .i64 q1)), .d (.val (.int .i64 q2)), .d (.val (.bool q3)), .d (.val (strV q4)), .d (.val (.float .f64 q5))], .one (.d (.val (.bool q6)))] : AV)) e1) e2) e3) e4) e5) e6; exact hE) rfl rfl rfl rfl rfl trivial
end Go.Proofs.Ytlabmehgcfgigaa.Q
namespace Go.Proofs.Ytlabmehgcfgigaa.Q
open Go Go.RowKit
set_option linter.unusedVariables false
set_option linter.unusedSimpArgs false
set_option maxRecDepth 100000
set_option maxHeartbeats 4000000
-- quaestor/value.Good
theorem value_Good (a : api_Value) : Holds Try.prog 31 ⟨[.tv (.agg [.d (.val (.int .i64 a.f_Kind)), .d (.val (.int .i64 a.f_Int)), .d (.val (.bool a.f_Bool)), .d (.val (strV a.f_Text)), .d (.val (.float .f64 a.f_Num))])], [], dv (.bool (decide (goodV a))), []⟩ := by
  refine Holds.of Try.func31 rfl (N := 22) Try.ntmps31 rfl fun w0 B0 S0 U0 => ?_
  show T _ (mkBase 22 0 w0 S0 U0 B0) ⟨[.tv (.agg [.d (.val (.int .i64 a.f_Kind)), .d (.val (.int .i64 a.f_Int)), .d (.val (.bool a.f_Bool)), .d (.val (strV a.f_Text)), .d (.val (.float .f64 a.f_Num))])], []⟩ _ _
  refine T.seq ?_
  refine xR [] (by kernel_rfl) (by kernel_rfl) ?_
  refine nT ?_
  refine T.seq ?_
  refine xR [hR 1 rfl rfl (r_call (value_part a ) Try.func59 rfl (by decide) [] [] (l := [(.tmp 6, .tv (.agg [.d (.val (.int .i64 a.f_Kind)), .d (.val (.int .i64 a.f_Int)), .d (.val (.bool a.f_Bool)), .d (.val (strV a.f_Text)), .d (.val (.float .f64 a.f_Num))]))]) [] rfl 0 0 rfl rfl rfl rfl rfl rfl rfl rfl rfl ⟨⟨.inl ⟨rfl, rfl⟩, ⟨.inl ⟨rfl, rfl⟩, ⟨.inl ⟨rfl, rfl⟩, ⟨.inl ⟨rfl, rfl⟩, ⟨.inl ⟨rfl, rfl⟩, trivial⟩⟩⟩⟩⟩, trivial⟩ rfl (fun b hb => by cases hb) (.inl rfl) (lt_of rfl) trivial)] (by kernel_rfl) (by kernel_rfl) ?_
  refine nT ?_
  refine T.seq ?_
  by_cases hq1 : 1 ≤ a.f_Kind ∧ a.f_Kind ≤ 4
  · by_cases hq2 : sameV a (partV a)
    · refine xR [hY 2 (decide_eq_true hq1),
        hY 3 (decide_eq_true hq1),
        hS 4 (oY rfl rfl rfl rfl (lt_of rfl) (decide_eq_true hq1) (r_call (value_Same a (partV a) ) Try.func15 rfl (by decide) [] [] (l := [(.tmp 12, .tv (.agg [.d (.val (.int .i64 a.f_Kind)), .d (.val (.int .i64 a.f_Int)), .d (.val (.bool a.f_Bool)), .d (.val (strV a.f_Text)), .d (.val (.float .f64 a.f_Num))])), (.tmp 13, .tv (.agg [.d (.val (.int .i64 (partV a).f_Kind)), .d (.val (.int .i64 (partV a).f_Int)), .d (.val (.bool (partV a).f_Bool)), .d (.val (strV (partV a).f_Text)), .d (.val (.float .f64 (partV a).f_Num))]))]) [] rfl 0 0 rfl rfl rfl rfl rfl rfl rfl rfl rfl ⟨⟨.inl ⟨rfl, rfl⟩, ⟨.inl ⟨rfl, rfl⟩, ⟨.inl ⟨rfl, rfl⟩, ⟨.inl ⟨rfl, rfl⟩, ⟨.inl ⟨rfl, rfl⟩, trivial⟩⟩⟩⟩⟩, ⟨⟨.inl ⟨rfl, rfl⟩, ⟨.inl ⟨rfl, rfl⟩, ⟨.inl ⟨rfl, rfl⟩, ⟨.inl ⟨rfl, rfl⟩, ⟨.inl ⟨rfl, rfl⟩, trivial⟩⟩⟩⟩⟩, trivial⟩⟩ rfl (fun b hb => by cases hb) (.inl rfl) (lt_of rfl) trivial)),
        hP 5 (decide_eq_true hq1),
        hY 7 (decide_eq_true hq2),
        hY 8 (decide_eq_true hq2),
        hY 9 (decide_eq_true hq2),
        hY 10 (decide_eq_true hq2),
        hP 11 (decide_eq_true hq2)] (by kernel_rfl) (by kernel_rfl) ?_
      refine nT ?_
      refine T.ret ?_
      exact tE (.inl rfl) [.t 2 (.one (.d (.val (.bool (decide (((a.f_Text.length : Nat) : Int) ≤ 32))))))] ⟨⟨rfl, by kernel_rfl⟩, trivial⟩ [] (by have e1 : ((decide (goodV a)) : Bool) = (decide (((a.f_Text.length : Nat) : Int) ≤ 32)) := (by (exact decide_eq_decide.2 ⟨fun h9 => h9.2.2, fun h9 => ⟨by assumption, by assumption, h9⟩⟩)); have hE := congrArg (fun (q1 : Bool) => (dv (.bool q1) : AV)) e1; exact hE) rfl rfl rfl rfl rfl trivial
    · refine xR [hY 2 (decide_eq_true hq1),
        hY 3 (decide_eq_true hq1),
        hS 4 (oY rfl rfl rfl rfl (lt_of rfl) (decide_eq_true hq1) (r_call (value_Same a (partV a) ) Try.func15 rfl (by decide) [] [] (l := [(.tmp 12, .tv (.agg [.d (.val (.int .i64 a.f_Kind)), .d (.val (.int .i64 a.f_Int)), .d (.val (.bool a.f_Bool)), .d (.val (strV a.f_Text)), .d (.val (.float .f64 a.f_Num))])), (.tmp 13, .tv (.agg [.d (.val (.int .i64 (partV a).f_Kind)), .d (.val (.int .i64 (partV a).f_Int)), .d (.val (.bool (partV a).f_Bool)), .d (.val (strV (partV a).f_Text)), .d (.val (.float .f64 (partV a).f_Num))]))]) [] rfl 0 0 rfl rfl rfl rfl rfl rfl rfl rfl rfl ⟨⟨.inl ⟨rfl, rfl⟩, ⟨.inl ⟨rfl, rfl⟩, ⟨.inl ⟨rfl, rfl⟩, ⟨.inl ⟨rfl, rfl⟩, ⟨.inl ⟨rfl, rfl⟩, trivial⟩⟩⟩⟩⟩, ⟨⟨.inl ⟨rfl, rfl⟩, ⟨.inl ⟨rfl, rfl⟩, ⟨.inl ⟨rfl, rfl⟩, ⟨.inl ⟨rfl, rfl⟩, ⟨.inl ⟨rfl, rfl⟩, trivial⟩⟩⟩⟩⟩, trivial⟩⟩ rfl (fun b hb => by cases hb) (.inl rfl) (lt_of rfl) trivial)),
        hP 5 (decide_eq_true hq1),
        hN 7 true (decide_eq_false hq2),
        hN 8 true (decide_eq_false hq2),
        hN 9 true (decide_eq_false hq2),
        hN 10 true (decide_eq_false hq2),
        hP 11 (decide_eq_false hq2)] (by kernel_rfl) (by kernel_rfl) ?_
      refine nT ?_
      refine T.ret ?_
      exact tE (.inl rfl) [.t 2 (.one (.d (.val (.bool false))))] ⟨⟨rfl, by kernel_rfl⟩, trivial⟩ [] (by have e1 : ((decide (goodV a)) : Bool) = false := (by (exact decide_eq_false (fun h9 => absurd h9.2.1 (by assumption)))); have hE := congrArg (fun (q1 : Bool) => (dv (.bool q1) : AV)) e1; exact hE) rfl rfl rfl rfl rfl trivial
  · refine xR [hN 2 true (decide_eq_false hq1),
      hN 3 true (decide_eq_false hq1),
      hN 4 true (decide_eq_false hq1),
      hP 5 (decide_eq_false hq1),
      hN 7 (b := false) true rfl,
      hN 8 (b := false) true rfl,
      hN 9 (b := false) true rfl,
      hN 10 (b := false) true rfl,
      hP 11 (b := false) (w := false) rfl] (by kernel_rfl) (by kernel_rfl) ?_
    refine nT ?_
    refine T.ret ?_
    exact tE (.inl rfl) [.t 2 (.one (.d (.val (.bool false))))] ⟨⟨rfl, by kernel_rfl⟩, trivial⟩ [] (by have e1 : ((decide (goodV a)) : Bool) = false := (by (exact decide_eq_false (fun h9 => absurd h9.1 (by assumption)))); have hE := congrArg (fun (q1 : Bool) => (dv (.bool q1) : AV)) e1; exact hE) rfl rfl rfl rfl rfl trivial
end Go.Proofs.Ytlabmehgcfgigaa.Q
