import Derived.Test.YtlabmehgcfgigaaK04
namespace Go.Proofs.Ytlabmehgcfgigaa.Q
set_option linter.unusedVariables false
set_option linter.unusedSimpArgs false
theorem tk_succ {α : Type} {z : α} {l : List α} {k : Nat} (hk : k < l.length) : l.take (k + 1) = l.take k ++ [l.getD k z] := by
  rw [List.take_add_one, List.getD_eq_getElem?_getD, List.getElem?_eq_getElem hk]; rfl
theorem all_succ {P : Nat → Prop} {k : Nat} (h : ∀ j, j < k → P j) (hk : P k) : ∀ j, j < k + 1 → P j := fun j hj => by
  rcases Nat.lt_or_ge j k with h1 | h1
  · exact h j h1
  · obtain rfl : j = k := by omega
    exact hk
theorem getD_mem {α : Type} {l : List α} {z : α} {k : Nat} (hk : k < l.length) : l.getD k z ∈ l := by
  rw [List.getD_eq_getElem?_getD, List.getElem?_eq_getElem hk]
  exact List.getElem_mem hk
section
variable {α : Type} {sz : α → Nat} {n m : Nat} {l : List α} {z : α} {k : Nat}
end
end Go.Proofs.Ytlabmehgcfgigaa.Q
namespace Go.Proofs.Ytlabmehgcfgigaa.Q
set_option linter.unusedVariables false
set_option linter.unusedSimpArgs false
def numL (l : List UInt8) : Nat := l.foldl (fun n b => n * 2 ^ 8 ||| b.toNat) 0
theorem or_byte (n : Nat) (b : UInt8) : n * 2 ^ 8 ||| b.toNat = n * 256 + b.toNat := by
  have h := UInt8.toNat_lt b
  rw [← Nat.shiftLeft_eq, ← Nat.shiftLeft_add_eq_or_of_lt (i := 8) (by omega), Nat.shiftLeft_eq]
theorem numL_lt' : ∀ (l : List UInt8) (a m : Nat), a < 256 ^ m → l.foldl (fun n b => n * 2 ^ 8 ||| b.toNat) a < 256 ^ (m + l.length)
  | [], a, m, h => h
  | b :: l, a, m, h => by
    rw [List.foldl_cons, or_byte, List.length_cons, show m + (l.length + 1) = (m + 1) + l.length by omega]
    refine numL_lt' l _ (m + 1) ?_
    rw [Nat.pow_succ]
    have := UInt8.toNat_lt b
    omega
theorem numL_lt (l : List UInt8) : numL l < 256 ^ l.length := by
  have := numL_lt' l 0 0 (by decide)
  rwa [Nat.zero_add] at this
theorem numL_lt8 {l : List UInt8} (h : l.length ≤ 8) : numL l < 18446744073709551616 := Nat.lt_of_lt_of_le (numL_lt l) (Nat.le_trans (Nat.pow_le_pow_right (by decide) h) (by decide))
theorem numL_lt7 {l : List UInt8} (h : l.length ≤ 7) : numL l < 72057594037927936 := Nat.lt_of_lt_of_le (numL_lt l) (Nat.le_trans (Nat.pow_le_pow_right (by decide) h) (by decide))
theorem numL_take {l : List UInt8} {k : Nat} (hk : k < l.length) : numL (l.take (k + 1)) = numL (l.take k) * 2 ^ 8 ||| (l.getD k 0).toNat := by
  rw [tk_succ (z := 0) hk]
  unfold numL
  rw [List.foldl_append]
  rfl
def bitsF (x : Nat) : Nat := if nanB x = true then 9221120237041090561 else x
theorem bitsF_lt {x : Nat} (h : x < 18446744073709551616) : bitsF x < 18446744073709551616 := by unfold bitsF; split <;> omega
end Go.Proofs.Ytlabmehgcfgigaa.Q
namespace Go.Proofs.Ytlabmehgcfgigaa.Q
set_option linter.unusedVariables false
set_option linter.unusedSimpArgs false
def okT (rest : List UInt8) (e n m : Int) : Prop := e = 0 ∧ n ≤ ((rest.length : Nat) : Int) ∧ m = 0
instance (rest : List UInt8) (e n m : Int) : Decidable (okT rest e n m) := inferInstanceAs (Decidable (_ ∧ _ ∧ _))
def rdE (rest : List UInt8) (e n m : Int) : Int := if e ≠ 0 then e else if n > ((rest.length : Nat) : Int) then 10 else m
theorem rdE_ok {rest : List UInt8} {e n m : Int} (h : okT rest e n m) : rdE rest e n m = 0 := by
  obtain ⟨h1, h2, h3⟩ := h
  unfold rdE
  rw [if_neg (by omega), if_neg (by omega), h3]
def floatE (b : List UInt8) : Int := if nanB (numL b) = true ∧ ((numL b : Nat) : Int) ≠ 9221120237041090561 then 12 else 0
def rdN (rest : List UInt8) (e : Int) : Nat := if okT rest e 8 (floatE (rest.take 8)) then numL (rest.take 8) else 0
section
variable {rest : List UInt8} {e most : Int}
end
end Go.Proofs.Ytlabmehgcfgigaa.Q
namespace Go.Proofs.Ytlabmehgcfgigaa.Q
set_option linter.unusedVariables false
set_option linter.unusedSimpArgs false
def rfN (B : List UInt8) (a m : Nat) : Nat := if a + m ≤ B.length then numL ((B.drop a).take m) else 0
def rfA (B : List UInt8) (a : Nat) (e n m : Int) : Nat := if okT (B.drop a) e n m then a + n.toNat else a
section
variable {B : List UInt8} {a : Nat} {e n m : Int}
theorem rfN_ok {m : Nat} (h : a + m ≤ B.length) : rfN B a m = numL ((B.drop a).take m) := if_pos h
theorem rfN_lt (B : List UInt8) (a : Nat) {m : Nat} (hm : m ≤ 8) : rfN B a m < 18446744073709551616 := by
  unfold rfN; split
  · exact numL_lt8 (Nat.le_trans (List.length_take_le _ _) hm)
  · decide
theorem numL_dropk {k : Nat} (hk : a + k < B.length) : numL ((B.drop a).take (k + 1)) = numL ((B.drop a).take k) * 2 ^ 8 ||| (B.getD (a + k) 0).toNat := by
  rw [numL_take (by simp; omega)]
  congr 2
  simp [List.getD_eq_getElem?_getD]
theorem rfA_ok (h : okT (B.drop a) e n m) : rfA B a e n m = a + n.toNat := if_pos h
theorem rfA_no (h : ¬ okT (B.drop a) e n m) : rfA B a e n m = a := if_neg h
theorem rf_e (h : e ≠ 0) (n m : Int) : ¬ okT (B.drop a) e n m ∧ rdE (B.drop a) e n m = e := ⟨fun h1 => h h1.1, if_pos h⟩
theorem rf_short {k : Nat} (hn : n = ((k : Nat) : Int)) (he : ¬ e ≠ 0) (h : ¬ a + k ≤ B.length) (ha : a ≤ B.length) (m : Int) : ¬ okT (B.drop a) e n m ∧ rdE (B.drop a) e n m = 10 := by
  have hl : (B.drop a).length = B.length - a := List.length_drop
  subst hn
  refine ⟨fun h1 => ?_, ?_⟩
  · have := h1.2.1; omega
  · unfold rdE
    rw [if_neg he, if_pos (by omega)]
theorem rf_m {k : Nat} {c : Int} (hn : n = ((k : Nat) : Int)) (he : ¬ e ≠ 0) (h : a + k ≤ B.length) {m : Int} (hm : m = c) (hc : c ≠ 0) : ¬ okT (B.drop a) e n m ∧ rdE (B.drop a) e n m = c := by
  have hl : (B.drop a).length = B.length - a := List.length_drop
  subst hn
  subst hm
  refine ⟨fun h1 => hc h1.2.2, ?_⟩
  unfold rdE
  rw [if_neg he, if_neg (by omega)]
theorem rf_ok {k : Nat} (hn : n = ((k : Nat) : Int)) (he : ¬ e ≠ 0) (h : a + k ≤ B.length) {m : Int} (hm : m = 0) : okT (B.drop a) e n m ∧ rdE (B.drop a) e n m = 0 := by
  have hl : (B.drop a).length = B.length - a := List.length_drop
  subst hn
  have hk : okT (B.drop a) e ((k : Nat) : Int) m := ⟨Classical.not_not.1 he, by omega, hm⟩
  exact ⟨hk, rdE_ok hk⟩
theorem float_of (h : a + 8 ≤ B.length) : floatE ((B.drop a).take 8) = if nanB (rfN B a 8) = true ∧ ((rfN B a 8 : Nat) : Int) ≠ 9221120237041090561 then 12 else 0 := by
  unfold floatE
  rw [rfN_ok h]
end
section
variable {B : List UInt8} {a : Nat} {e most : Int}
end
end Go.Proofs.Ytlabmehgcfgigaa.Q
namespace Go.Proofs.Ytlabmehgcfgigaa.Q
open Go Go.RowKit
set_option linter.unusedVariables false
set_option linter.unusedSimpArgs false
set_option maxRecDepth 100000
set_option maxHeartbeats 4000000
theorem iat_5 : Try.prog.info? 5 = some Try.t5 := by kernel_rfl
theorem zero_5 : Zero Try.prog 5 [.int .u8 0] := ⟨_, _, iat_5, rfl, rfl⟩
theorem math_IsNaN (x : Nat) : Holds Try.prog 83 ⟨[dv (.float .f64 x)], [], vB (nanB x), []⟩ := by
 refine Holds.of Try.func83 rfl (N := 6) Try.ntmps83 rfl fun w0 B0 S0 U0 => ?_
 show T _ (mkBase 6 0 w0 S0 U0 B0) ⟨[dv (.float .f64 x)], []⟩ _ _
 refine sR [] ?_
 refine sR [hR 2 rfl rfl (r_bin (u1 := .float .f64 x) (u2 := .float .f64 x) (v := .bool (nanB x)) b_nan (lt_of rfl) trivial)] ?_
 refine T.ret ?_
 exact eRt 2 (.one (dB (nanB x))) [] rfl trivial
end Go.Proofs.Ytlabmehgcfgigaa.Q
