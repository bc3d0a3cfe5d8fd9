import Derived.Test.YtacikihlgpnjhaaC10n17
namespace Go.Proofs.Ytacikihlgpnjhaa.Q
set_option linter.unusedVariables false
set_option linter.unusedSimpArgs false

/-! ### Numbers that are read -/

theorem back_intX {n : Int} (hn : i64R n) (r : List UInt8) : rdI (intB n ++ r) 0 = n ∧ rdR (intB n ++ r) 0 8 0 = r ∧ rdE (intB n ++ r) 0 8 0 = 0 := by
  have hk : okT (intB n ++ r) 0 8 0 := okT_app (int_len n)
  refine ⟨?_, ?_, rdE_ok hk⟩
  · rw [rdI, if_pos hk, take_app (int_len n), intB, num_spell (Nat.lt_of_lt_of_le (u64_lt n) (by decide)), toI64_u64 hn]
  · rw [rdR_ok hk]; exact drop_app (int_len n)
theorem u64_toI64 {n : Nat} (h : n < 18446744073709551616) : u64 (toI64 n) = n := by unfold toI64 u64; split <;> omega
theorem rdI_range (r : List UInt8) (e : Int) : i64R (rdI r e) := by
  unfold rdI i64R
  split
  · have := numL_lt8 (l := r.take 8) (List.length_take_le _ _)
    unfold toI64
    split <;> omega
  · omega
theorem read_intX {r : List UInt8} {e : Int} (h : rdE r e 8 0 = 0) : e = 0 ∧ r = intB (rdI r e) ++ rdR r e 8 0 := by
  have h1 := okT_of h
  have h8 : (r.take 8).length = 8 := by have := h1.2.1; rw [List.length_take]; omega
  have hn := numL_lt8 (l := r.take 8) (by omega)
  refine ⟨h1.1, ?_⟩
  rw [rdI, if_pos h1, rdR_ok h1, intB, u64_toI64 hn]
  have := spell_num (r.take 8) []
  rw [List.nil_append, h8] at this
  rw [this]
  exact (List.take_append_drop 8 r).symm
theorem rdX_ok {r : List UInt8} {e : Int} (h : rdX r e = 0) : e = 0 ∧ r = [] := by
  unfold rdX at h
  split at h
  · cases h
  · rename_i h1
    refine ⟨h, ?_⟩
    cases r with
    | nil => rfl
    | cons a r => exact absurd ⟨h, by simp <;> omega⟩ h1
theorem rdX_nil : rdX [] 0 = 0 := rfl
end Go.Proofs.Ytacikihlgpnjhaa.Q
