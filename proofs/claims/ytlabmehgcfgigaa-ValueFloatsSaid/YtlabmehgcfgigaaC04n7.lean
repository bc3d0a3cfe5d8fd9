import Derived.Test.YtlabmehgcfgigaaC04n6
namespace Go.Proofs.Ytlabmehgcfgigaa.Q
open Go Go.RowKit
set_option linter.unusedVariables false
set_option linter.unusedSimpArgs false
set_option maxRecDepth 100000
set_option maxHeartbeats 4000000
section
variable (a : api_Value) (b : api_Value)
end
theorem value_ofInt (n : Int) : Holds Try.prog 55 ⟨[vI n], [], .tv (.agg [dI (intV n).f_Kind, dI (intV n).f_Int, dB (intV n).f_Bool, dS (intV n).f_Text, .d (.val (.float .f64 (intV n).f_Num))]), []⟩ := by
 refine Holds.of Try.func55 rfl (N := 5) Try.ntmps55 rfl fun w0 B0 S0 U0 => ?_
 show T _ (mkBase 5 0 w0 S0 U0 B0) ⟨[vI n], []⟩ _ _
 refine sR [] ?_
 refine sR [] ?_
 refine T.ret ?_
 exact eX [.c 2 0 24 0 24 [dI 1, dI n, dB false, dS [], .d (.val (.float .f64 0))] (.agg [dI 1, dI n, dB false, dS [], .d (.val (.float .f64 0))])] ⟨⟨rfl, rfl, by kernel_rfl, by kernel_rfl, .inl ⟨5, wide_24, rfl, Nat.le_of_ble_eq_true rfl⟩⟩, trivial⟩ [] (cg5 (fun (q1 : Int) (q2 : Int) (q3 : Bool) (q4 : List UInt8) (q5 : Nat) => (.tv (.agg [dI q1, dI q2, dB q3, dS q4, .d (.val (.float .f64 q5))]) : AV)) (by rfl) (by rfl) (by rfl) (by rfl) (by rfl)) trivial
theorem ref04_Int (n : Int) : Holds Try.prog 19 ⟨[vI n], [], .tv (.agg [dI (intV n).f_Kind, dI (intV n).f_Int, dB (intV n).f_Bool, dS (intV n).f_Text, .d (.val (.float .f64 (intV n).f_Num))]), []⟩ := by
 refine Holds.of Try.func19 rfl (N := 5) Try.ntmps19 rfl fun w0 B0 S0 U0 => ?_
 show T _ (mkBase 5 0 w0 S0 U0 B0) ⟨[vI n], []⟩ _ _
 refine sR [] ?_
 refine sR [] ?_
 refine T.ret ?_
 exact eX [.c 2 0 24 0 24 [dI 1, dI n, dB false, dS [], .d (.val (.float .f64 0))] (.agg [dI 1, dI n, dB false, dS [], .d (.val (.float .f64 0))])] ⟨⟨rfl, rfl, by kernel_rfl, by kernel_rfl, .inl ⟨5, wide_24, rfl, Nat.le_of_ble_eq_true rfl⟩⟩, trivial⟩ [] (cg5 (fun (q1 : Int) (q2 : Int) (q3 : Bool) (q4 : List UInt8) (q5 : Nat) => (.tv (.agg [dI q1, dI q2, dB q3, dS q4, .d (.val (.float .f64 q5))]) : AV)) (by rfl) (by rfl) (by rfl) (by rfl) (by rfl)) trivial
theorem value_ofNum (n : Nat) : Holds Try.prog 52 ⟨[dv (.float .f64 n)], [], .tv (.agg [dI (numV n).f_Kind, dI (numV n).f_Int, dB (numV n).f_Bool, dS (numV n).f_Text, .d (.val (.float .f64 (numV n).f_Num))]), []⟩ := by
 refine Holds.of Try.func52 rfl (N := 7) Try.ntmps52 rfl fun w0 B0 S0 U0 => ?_
 show T _ (mkBase 7 0 w0 S0 U0 B0) ⟨[dv (.float .f64 n)], []⟩ _ _
 refine sR [] ?_
 refine sR [hR 1 rfl rfl (rCa (value_code n ) Try.func47 [] [(.tmp 3, dv (.float .f64 n))] 0 0),
   hR 2 rfl rfl (r_ext1 (u := .int .u64 ((bitsF n : Nat) : Int)) (v := .float .f64 (bitsF n)) (e := Extern.MathFloatBits.float64frombits) Try.func85 (by kernel_rfl) (by kernel_rfl) (by kernel_rfl) (by kernel_rfl) (fun w => rfl) (lt_of rfl) trivial)] ?_
 refine T.ret ?_
 exact eX [.c 2 0 24 0 24 [dI 4, dI 0, dB false, dS [], .d (.val (.float .f64 (bitsF n)))] (.agg [dI 4, dI 0, dB false, dS [], .d (.val (.float .f64 (bitsF n)))])] ⟨⟨rfl, rfl, by kernel_rfl, by kernel_rfl, .inl ⟨5, wide_24, rfl, Nat.le_of_ble_eq_true rfl⟩⟩, trivial⟩ [] (cg5 (fun (q1 : Int) (q2 : Int) (q3 : Bool) (q4 : List UInt8) (q5 : Nat) => (.tv (.agg [dI q1, dI q2, dB q3, dS q4, .d (.val (.float .f64 q5))]) : AV)) (by rfl) (by rfl) (by rfl) (by rfl) (by rfl)) trivial
abbrev Z1l : TV := .one (.d (.val (.int .u8 0)))
abbrev Z1m : St := ⟨[dv (.float .f64 0), pv 1 0], [.live (arrK 5 kU8 [(127 : UInt8), (248 : UInt8), (0 : UInt8), (0 : UInt8), (0 : UInt8), (0 : UInt8), (0 : UInt8), (1 : UInt8)]), .live (.box 52 [.own 0 kU8.sz 0 [(127 : UInt8), (248 : UInt8), (0 : UInt8), (0 : UInt8), (0 : UInt8), (0 : UInt8), (0 : UInt8), (1 : UInt8)].length, dI 0, dI 0])]⟩
theorem ref04_NaN : Holds Try.prog 49 ⟨[], [], dv (.float .f64 9221120237041090561), []⟩ := by
 refine Holds.of Try.func49 rfl (N := 7) Try.ntmps49 rfl fun w0 B0 S0 U0 => ?_
 show T _ (mkBase 7 0 w0 S0 U0 B0) ⟨[], []⟩ _ _
 refine sR [] ?_
 refine sR [hR 0 rfl rfl (q_buildSlice 0 5 kU8 kU8_ok [(127 : UInt8), (248 : UInt8), (0 : UInt8), (0 : UInt8), (0 : UInt8), (0 : UInt8), (0 : UInt8), (1 : UInt8)] [⟨0, .const (.int .u8 127), .one (.d (.val (.int .u8 127))), 0⟩, ⟨1, .const (.int .u8 248), .one (.d (.val (.int .u8 248))), 1⟩, ⟨2, .const (.int .u8 0), Z1l, 2⟩, ⟨3, .const (.int .u8 0), Z1l, 3⟩, ⟨4, .const (.int .u8 0), Z1l, 4⟩, ⟨5, .const (.int .u8 0), Z1l, 5⟩, ⟨6, .const (.int .u8 0), Z1l, 6⟩, ⟨7, .const (.int .u8 1), .one (.d (.val (.int .u8 1))), 7⟩] (cs := [.d (.val (.int .u8 127)), .d (.val (.int .u8 248)), .d (.val (.int .u8 0)), .d (.val (.int .u8 0)), .d (.val (.int .u8 0)), .d (.val (.int .u8 0)), .d (.val (.int .u8 0)), .d (.val (.int .u8 1))]) Try.underlying47 iat_5 rfl zero_5 rfl rfl rfl (Nat.le_of_ble_eq_true rfl) (part_cons rfl rfl (Nat.le_of_ble_eq_true rfl) (part_cons rfl rfl (Nat.le_of_ble_eq_true rfl) (part_cons rfl rfl (Nat.le_of_ble_eq_true rfl) (part_cons rfl rfl (Nat.le_of_ble_eq_true rfl) (part_cons rfl rfl (Nat.le_of_ble_eq_true rfl) (part_cons rfl rfl (Nat.le_of_ble_eq_true rfl) (part_cons rfl rfl (Nat.le_of_ble_eq_true rfl) (part_cons rfl rfl (Nat.le_of_ble_eq_true rfl) part_ok)))))))) (by kernel_rfl) (wk_eq (by kernel_rfl)) (lt_of rfl) ⟨rfl, ⟨rfl, ⟨rfl, ⟨rfl, ⟨rfl, ⟨rfl, ⟨rfl, ⟨rfl, trivial⟩⟩⟩⟩⟩⟩⟩⟩)] ?_
 refine tN Z1m ?_
 refine T.turn (s' := ⟨[dv (.float .f64 0), pv 1 0], [.dead, .live (.box 52 [dU [(127 : UInt8), (248 : UInt8), (0 : UInt8), (0 : UInt8), (0 : UInt8), (0 : UInt8), (0 : UInt8), (1 : UInt8)], dI 0, dI 0])]⟩) (fun _ _ hG => Gs.freeze (s := Z1m) 0 (el := elOf kU8 [(127 : UInt8), (248 : UInt8), (0 : UInt8), (0 : UInt8), (0 : UInt8), (0 : UInt8), (0 : UInt8), (1 : UInt8)]) (sz := kU8.sz) (n := [(127 : UInt8), (248 : UInt8), (0 : UInt8), (0 : UInt8), (0 : UInt8), (0 : UInt8), (0 : UInt8), (1 : UInt8)].length) rfl (kk2 trivial) ⟨(.inl ⟨rfl, rfl⟩), ⟨(.inr ⟨by decide, .inr ⟨rfl, ⟨(.inr ⟨rfl, rfl, rfl, (fun h => by cases h), rfl, rfl, Nat.le_of_eq (Nat.zero_add _), fun i j _ => by rw [Nat.zero_add]⟩), (kk2 trivial)⟩⟩⟩), trivial⟩⟩ hG) ?_
 refine sR [hR 1 rfl rfl (rCa (ref01_rNum [(127 : UInt8), (248 : UInt8), (0 : UInt8), (0 : UInt8), (0 : UInt8), (0 : UInt8), (0 : UInt8), (1 : UInt8)] 0 0 (by omega) (by (simp [maxLen, -List.getD_eq_getElem?_getD] <;> omega))) Try.func71 [1] [(.tmp 5, pv 1 0)] 1 1)] ?_
 refine T.ret ?_
 exact eRt 0 (.one (.d (.val (.float .f64 (rdN ([(127 : UInt8), (248 : UInt8), (0 : UInt8), (0 : UInt8), (0 : UInt8), (0 : UInt8), (0 : UInt8), (1 : UInt8)].drop 0) 0))))) [] (congrArg (fun (q1 : Nat) => (dv (.float .f64 q1) : AV)) (by rfl)) trivial
theorem ref04_Num (n : Nat) : Holds Try.prog 30 ⟨[dv (.float .f64 n)], [], .tv (.agg [dI (numV n).f_Kind, dI (numV n).f_Int, dB (numV n).f_Bool, dS (numV n).f_Text, .d (.val (.float .f64 (numV n).f_Num))]), []⟩ := by
 refine Holds.of Try.func30 rfl (N := 9) Try.ntmps30 rfl fun w0 B0 S0 U0 => ?_
 show T _ (mkBase 9 0 w0 S0 U0 B0) ⟨[dv (.float .f64 n)], []⟩ _ _
 refine sR [] ?_
 refine T.seq ?_
 refine sR [hR 2 rfl rfl (r_bin (u1 := .float .f64 n) (u2 := .float .f64 n) (v := .bool (nanB n)) b_nan (lt_of rfl) trivial)] ?_
 by_cases hq1 : (nanB n) = true
 ·refine cT hq1 ?_
  refine xK [hR 0 rfl rfl (rCa (ref04_NaN  ) Try.func49 [] [] 0 0)] ?_
  refine nT ?_
  refine sR [] ?_
  refine T.ret ?_
  exact eX [.c 2 0 24 0 24 [dI 4, dI 0, dB false, dS [], .d (.val (.float .f64 9221120237041090561))] (.agg [dI 4, dI 0, dB false, dS [], .d (.val (.float .f64 9221120237041090561))])] ⟨⟨rfl, rfl, by kernel_rfl, by kernel_rfl, .inl ⟨5, wide_24, rfl, Nat.le_of_ble_eq_true rfl⟩⟩, trivial⟩ [] (by have e1 : ((numV n).f_Kind : Int) = 4 := (by rfl); have e2 : ((numV n).f_Int : Int) = 0 := (by rfl); have e3 : ((numV n).f_Bool : Bool) = false := (by rfl); have e4 : ((numV n).f_Text : List UInt8) = [] := (by rfl); have e5 : ((numV n).f_Num : Nat) = 9221120237041090561 := (by ((simp [numV, bitsF, *]; done))); have hE := congr (congr (congr (congr (congrArg (fun (q1 : Int) (q2 : Int) (q3 : Bool) (q4 : List UInt8) (q5 : Nat) => (.tv (.agg [dI q1, dI q2, dB q3, dS q4, .d (.val (.float .f64 q5))]) : AV)) e1) e2) e3) e4) e5; exact hE) trivial
 replace hq1 := Bool.eq_false_iff.2 hq1
 refine cF hq1 ?_
 refine T.skip (nT ?_)
 refine sR [] ?_
 refine T.ret ?_
 exact eX [.c 2 0 24 0 24 [dI 4, dI 0, dB false, dS [], .d (.val (.float .f64 n))] (.agg [dI 4, dI 0, dB false, dS [], .d (.val (.float .f64 n))])] ⟨⟨rfl, rfl, by kernel_rfl, by kernel_rfl, .inl ⟨5, wide_24, rfl, Nat.le_of_ble_eq_true rfl⟩⟩, trivial⟩ [] (by have e1 : ((numV n).f_Kind : Int) = 4 := (by rfl); have e2 : ((numV n).f_Int : Int) = 0 := (by rfl); have e3 : ((numV n).f_Bool : Bool) = false := (by rfl); have e4 : ((numV n).f_Text : List UInt8) = [] := (by rfl); have e5 : ((numV n).f_Num : Nat) = n := (by ((simp [numV, bitsF, *]; done))); have hE := congr (congr (congr (congr (congrArg (fun (q1 : Int) (q2 : Int) (q3 : Bool) (q4 : List UInt8) (q5 : Nat) => (.tv (.agg [dI q1, dI q2, dB q3, dS q4, .d (.val (.float .f64 q5))]) : AV)) e1) e2) e3) e4) e5; exact hE) trivial
theorem law_negative : Holds Try.prog 50 ⟨[], [], dv (.float .f64 9223372036854775808), []⟩ := by
 refine Holds.of Try.func50 rfl (N := 4) Try.ntmps50 rfl fun w0 B0 S0 U0 => ?_
 show T _ (mkBase 4 0 w0 S0 U0 B0) ⟨[], []⟩ _ _
 refine sR [] ?_
 refine sR [] ?_
 refine sR [hR 1 rfl rfl (r_un (u := .float .f64 0) (v := .float .f64 (negF 0)) u_negF (lt_of rfl) trivial)] ?_
 refine T.ret ?_
 exact eRt 0 (.one (.d (.val (.float .f64 9223372036854775808)))) [] rfl trivial
end Go.Proofs.Ytlabmehgcfgigaa.Q
namespace Go.Proofs.Ytlabmehgcfgigaa.Q
set_option linter.unusedVariables false
set_option linter.unusedSimpArgs false
set_option maxRecDepth 100000
def shortL (l : List Val) : Prop := ∀ x, x ∈ l → x.f_Text.length ≤ 1000
instance (l : List Val) : Decidable (shortL l) := inferInstanceAs (Decidable (∀ x, x ∈ l → _))
theorem shortL_no {l : List Val} {k : Nat} (hk : k < l.length) (h : (((l.getD k z_api_Value).f_Text.length : Nat) : Int) > 1000) : ¬ shortL l := fun h1 => by
  have := h1 _ (getD_mem (z := z_api_Value) hk)
  omega
theorem shortL_yes {l : List Val} {k : Nat} (hk : l.length ≤ k) (h : ∀ j, j < k → (l.getD j z_api_Value).f_Text.length ≤ 1000) : shortL l := fun x hx => by
  obtain ⟨j, hj, rfl⟩ := List.getElem_of_mem hx
  have := h j (by omega)
  rwa [List.getD_eq_getElem?_getD, List.getElem?_eq_getElem hj] at this
theorem mul_split (x y : Nat) : x * y = 18446744073709551616 * (x / 2 ^ 32 * (y / 2 ^ 32)) + 4294967296 * (x / 2 ^ 32 * (y % 4294967296)) + 4294967296 * (x % 4294967296 * (y / 2 ^ 32)) + x % 4294967296 * (y % 4294967296) := by
  have h : ∀ a b c d : Nat, (4294967296 * a + b) * (4294967296 * c + d) = 18446744073709551616 * (a * c) + 4294967296 * (a * d) + 4294967296 * (b * c) + b * d := fun a b c d => by
    rw [Nat.add_mul, Nat.mul_add, Nat.mul_add]
    have e1 : 4294967296 * a * (4294967296 * c) = 18446744073709551616 * (a * c) := by rw [Nat.mul_mul_mul_comm]
    have e2 : 4294967296 * a * d = 4294967296 * (a * d) := Nat.mul_assoc _ _ _
    have e3 : b * (4294967296 * c) = 4294967296 * (b * c) := by rw [Nat.mul_left_comm]
    omega
  have hx := Nat.div_add_mod x 4294967296
  have hy := Nat.div_add_mod y 4294967296
  have hp : (2 : Nat) ^ 32 = 4294967296 := by decide
  rw [hp, ← h, hx, hy]
theorem mul_bd {a b m n : Nat} (ha : a ≤ m) (hb : b ≤ n) : a * b ≤ m * n := Nat.mul_le_mul ha hb
def inR (n : Int) : Prop := -9223372036854775808 ≤ n ∧ n ≤ 9223372036854775807
instance (n : Int) : Decidable (inR n) := inferInstanceAs (Decidable (_ ∧ _))
def prodN (a b : Int) : Int := if decide (a < 0) ≠ decide (b < 0) then IntKind.i64.wrap (0 - toI64 (a.natAbs * b.natAbs % 18446744073709551616)) else toI64 (a.natAbs * b.natAbs % 18446744073709551616)
theorem prodN_no {a b : Int} (hs : decide (a < 0) ≠ decide (b < 0)) : prodN a b = IntKind.i64.wrap (0 - toI64 (a.natAbs * b.natAbs % 18446744073709551616)) := if_pos hs
theorem prodN_yes {a b : Int} (hs : ¬ decide (a < 0) ≠ decide (b < 0)) : prodN a b = toI64 (a.natAbs * b.natAbs % 18446744073709551616) := if_neg hs
theorem mul_sign (a b : Int) : a * b = if decide (a < 0) ≠ decide (b < 0) then -(((a.natAbs * b.natAbs : Nat)) : Int) else (((a.natAbs * b.natAbs : Nat)) : Int) := by
  rw [Int.natCast_mul]
  by_cases ha : a < 0
  · by_cases hb : b < 0
    · rw [if_neg (by simp [ha, hb]), show ((a.natAbs : Nat) : Int) = -a by omega, show ((b.natAbs : Nat) : Int) = -b by omega, Int.neg_mul_neg]
    · rw [if_pos (by simp [ha, hb]), show ((a.natAbs : Nat) : Int) = -a by omega, show ((b.natAbs : Nat) : Int) = b by omega, Int.neg_mul, Int.neg_neg]
  · by_cases hb : b < 0
    · rw [if_pos (by simp [ha, hb]), show ((a.natAbs : Nat) : Int) = a by omega, show ((b.natAbs : Nat) : Int) = -b by omega, Int.mul_neg, Int.neg_neg]
    · rw [if_neg (by simp [ha, hb]), show ((a.natAbs : Nat) : Int) = a by omega, show ((b.natAbs : Nat) : Int) = b by omega]
theorem prod_no {a b : Int} (hs : decide (a < 0) ≠ decide (b < 0)) : inR (a * b) ↔ (((a.natAbs * b.natAbs / 18446744073709551616 : Nat) : Int) = 0 ∧ ((a.natAbs * b.natAbs % 18446744073709551616 : Nat) : Int) ≤ 9223372036854775808) := by
  have h := mul_sign a b
  rw [if_pos hs] at h
  unfold inR
  rw [h]
  generalize a.natAbs * b.natAbs = m
  omega
theorem prod_yes {a b : Int} (hs : ¬ decide (a < 0) ≠ decide (b < 0)) : inR (a * b) ↔ (((a.natAbs * b.natAbs / 18446744073709551616 : Nat) : Int) = 0 ∧ ((a.natAbs * b.natAbs % 18446744073709551616 : Nat) : Int) < 9223372036854775808) := by
  have h := mul_sign a b
  rw [if_neg hs] at h
  unfold inR
  rw [h]
  generalize a.natAbs * b.natAbs = m
  omega
theorem prod_eq {a b : Int} (h : inR (a * b)) : prodN a b = a * b := by
  have h1 := mul_sign a b
  unfold prodN
  by_cases hs : decide (a < 0) ≠ decide (b < 0)
  · rw [if_pos hs]
    rw [if_pos hs] at h1
    rw [h1] at h ⊢
    unfold inR at h
    rw [IntKind.wrap_i64]
    generalize a.natAbs * b.natAbs = m at h ⊢
    unfold toI64
    split <;> omega
  · rw [if_neg hs]
    rw [if_neg hs] at h1
    rw [h1] at h ⊢
    unfold inR at h
    generalize a.natAbs * b.natAbs = m at h ⊢
    unfold toI64
    split <;> omega
def okOp (op : Int) : Prop := 4 ≤ op ∧ op ≤ 7 ∨ op = 14 ∨ op = 15
instance (op : Int) : Decidable (okOp op) := inferInstanceAs (Decidable (_ ∨ _ ∨ _))
def resN (n : Int) : Int := if inR n then n else 0
def resE (n : Int) : Int := if inR n then 0 else 41
def intsN (op a b : Int) : Int := if op = 4 then resN (a + b) else if op = 5 then resN (a - b) else if op = 6 then resN (a * b) else if op = 7 then (if b = 0 then 0 else resN (a.tdiv b)) else if op = 14 then min a b else max a b
def intsE (op a b : Int) : Int := if op = 4 then resE (a + b) else if op = 5 then resE (a - b) else if op = 6 then resE (a * b) else if op = 7 then (if b = 0 then 42 else resE (a.tdiv b)) else 0
theorem ints_4 (a b : Int) : intsN 4 a b = resN (a + b) ∧ intsE 4 a b = resE (a + b) := ⟨rfl, rfl⟩
theorem ints_5 (a b : Int) : intsN 5 a b = resN (a - b) ∧ intsE 5 a b = resE (a - b) := ⟨rfl, rfl⟩
theorem ints_6 (a b : Int) : intsN 6 a b = resN (a * b) ∧ intsE 6 a b = resE (a * b) := ⟨rfl, rfl⟩
theorem ints_7 {a b : Int} (h : ¬ b = 0) : intsN 7 a b = resN (a.tdiv b) ∧ intsE 7 a b = resE (a.tdiv b) := ⟨if_neg h, if_neg h⟩
theorem ints_70 {a b : Int} (h : b = 0) : intsN 7 a b = 0 ∧ intsE 7 a b = 42 := ⟨if_pos h, if_pos h⟩
theorem res_yes {n : Int} (h : inR n) : resN n = n ∧ resE n = 0 := ⟨if_pos h, if_pos h⟩
theorem res_no {n : Int} (h : ¬ inR n) : resN n = 0 ∧ resE n = 41 := ⟨if_neg h, if_neg h⟩
theorem add_ok {a b : Int} (ha : inR a) (hb : inR b) (h : decide (IntKind.i64.wrap (a + b) > a) = decide (b > 0) ∨ b = 0) : inR (a + b) := by
  unfold inR at *
  rw [decide_eq_decide, IntKind.wrap_i64] at h
  omega
theorem add_no {a b : Int} (ha : inR a) (hb : inR b) (h : ¬ decide (IntKind.i64.wrap (a + b) > a) = decide (b > 0)) (h0 : ¬ b = 0) : ¬ inR (a + b) := by
  unfold inR at *
  rw [decide_eq_decide, IntKind.wrap_i64] at h
  omega
theorem sub_ok {a b : Int} (ha : inR a) (hb : inR b) (h : decide (IntKind.i64.wrap (a - b) < a) = decide (b > 0) ∨ b = 0) : inR (a - b) := by
  unfold inR at *
  rw [decide_eq_decide, IntKind.wrap_i64] at h
  omega
theorem sub_no {a b : Int} (ha : inR a) (hb : inR b) (h : ¬ decide (IntKind.i64.wrap (a - b) < a) = decide (b > 0)) (h0 : ¬ b = 0) : ¬ inR (a - b) := by
  unfold inR at *
  rw [decide_eq_decide, IntKind.wrap_i64] at h
  omega
theorem wrap_of {n : Int} (h : inR n) : IntKind.i64.wrap n = n := by unfold inR at h; rw [IntKind.wrap_i64]; omega
theorem tdiv_bd (a b : Int) : (a.tdiv b).natAbs ≤ a.natAbs := by rw [Int.natAbs_tdiv]; exact Nat.div_le_self _ _
theorem div_ok {a b : Int} (ha : inR a) (hb : ¬ b = 0) (h : a ≠ -9223372036854775808 ∨ b ≠ -1) : inR (a.tdiv b) := by
  have h1 := tdiv_bd a b
  unfold inR at *
  by_cases hm : a.tdiv b = 9223372036854775808
  · exfalso
    have ha' : a = -9223372036854775808 := by omega
    subst ha'
    rcases h with h | h
    · exact h rfl
    · have e := Int.mul_tdiv_add_tmod (-9223372036854775808) b
      rw [hm] at e
      have h2 := Int.natAbs_tmod (-9223372036854775808) b
      have h3 : ((-9223372036854775808 : Int).tmod b).natAbs < b.natAbs := by rw [h2]; exact Nat.mod_lt _ (by omega)
      have h4 : ((-9223372036854775808 : Int).tdiv b).natAbs = 9223372036854775808 / b.natAbs := Int.natAbs_tdiv _ _
      rw [hm] at h4
      have h5 : b.natAbs = 1 := by
        rcases Nat.lt_or_ge b.natAbs 2 with h6 | h6
        · omega
        · have := Nat.div_le_div_left (a := 9223372036854775808) h6 (by decide)
          have h7 : (9223372036854775808 : Nat) / 2 = 4611686018427387904 := by decide
          rw [h7] at this
          rw [← h4] at this
          exact absurd this (by decide)
      have h8 : b = 1 ∨ b = -1 := by omega
      rcases h8 with rfl | rfl
      · rw [Int.tdiv_one] at hm; cases hm
      · exact h rfl
  · omega
theorem div_no : ¬ inR ((-9223372036854775808 : Int).tdiv (-1)) := by decide
theorem div_no2 {a b : Int} (h : ¬ a ≠ -9223372036854775808) (h' : ¬ b ≠ -1) : ¬ inR (a.tdiv b) := by rw [Classical.not_not.1 h, Classical.not_not.1 h']; exact div_no
def reckV (op : Int) (a b : Val) : Val := if okOp op ∧ bothV a b ∧ a.f_Kind = 1 ∧ intsE op a.f_Int b.f_Int = 0 then intV (intsN op a.f_Int b.f_Int) else z_api_Value
def reckE (op : Int) (a b : Val) : Int := if okOp op then (if bothV a b ∧ a.f_Kind = 1 then intsE op a.f_Int b.f_Int else 40) else 1
section
variable {op : Int} {a b : Val}
theorem reck_arg (h : ¬ okOp op) : reckV op a b = z_api_Value ∧ reckE op a b = 1 := ⟨if_neg fun h' => h h'.1, if_neg h⟩
theorem reck_type (ho : okOp op) (h : ¬ (bothV a b ∧ a.f_Kind = 1)) : reckV op a b = z_api_Value ∧ reckE op a b = 40 := ⟨if_neg fun h' => h ⟨h'.2.1, h'.2.2.1⟩, by rw [reckE, if_pos ho, if_neg h]⟩
theorem reck_err (ho : okOp op) (h : bothV a b) (hk : a.f_Kind = 1) (he : intsE op a.f_Int b.f_Int ≠ 0) : reckV op a b = z_api_Value ∧ reckE op a b = intsE op a.f_Int b.f_Int := ⟨if_neg fun h' => he h'.2.2.2, by rw [reckE, if_pos ho, if_pos ⟨h, hk⟩]⟩
theorem reck_ok (ho : okOp op) (h : bothV a b) (hk : a.f_Kind = 1) (he : ¬ intsE op a.f_Int b.f_Int ≠ 0) : reckV op a b = intV (intsN op a.f_Int b.f_Int) ∧ reckE op a b = 0 := ⟨if_pos ⟨ho, h, hk, Classical.not_not.1 he⟩, by rw [reckE, if_pos ho, if_pos ⟨h, hk⟩]; exact Classical.not_not.1 he⟩
end
theorem good_intV (n : Int) : goodV (intV n) := good_iff.2 ⟨⟨(by show (1 : Int) ≤ 1; decide), (by show (1 : Int) ≤ 4; decide)⟩, (by show (((([] : List UInt8)).length : Nat) : Int) ≤ 32; decide), .inl rfl, .inr rfl, .inr rfl, .inr (by show ((bitsF 0 : Nat) : Int) = 0; decide +kernel)⟩
end Go.Proofs.Ytlabmehgcfgigaa.Q
namespace Go.Proofs.Ytlabmehgcfgigaa.Q
open Go Go.RowKit
set_option linter.unusedVariables false
set_option linter.unusedSimpArgs false
set_option maxRecDepth 100000
set_option maxHeartbeats 4000000
theorem law_short (tl : Bool) (nl : Bool) (l : List api_Value) (hl : l.length ≤ 1000) : Holds Try.prog 12 ⟨[slV tl nl (k_api_Value false) l], [], vB (decide (shortL l)), []⟩ := by
 refine Holds.of Try.func12 rfl (N := 17) Try.ntmps12 rfl fun w0 B0 S0 U0 => ?_
 show T _ (mkBase 17 0 w0 S0 U0 B0) ⟨[slV tl nl (k_api_Value false) l], []⟩ _ _
 refine sR [] ?_
 refine T.seq ?_
 refine sR [] ?_
 refine T.block ?_
 refine T.loop (ι := Nat) (fun (k : Nat) => ⟨[slV tl nl (k_api_Value false) l, aa, vB false, vI ((k : Nat) : Int)], []⟩) (fun (k : Nat) => (k ≤ l.length) ∧ (∀ j, j < k → (l.getD j z_api_Value).f_Text.length ≤ 1000)) (fun (k : Nat) => l.length - k) (0) ⟨(Nat.zero_le _), (fun j hj => absurd hj (Nat.not_lt_zero _))⟩ (fun _ _ hG => Gs.iI [] (bm 4 13) rfl rfl hG) ?_
 rintro k ⟨hk, hb⟩
 show T _ _ ⟨[slV tl nl (k_api_Value false) l, aa, vB false, vI ((k : Nat) : Int)], []⟩ _ _
 replace hk : k ≤ l.length := hk
 replace hb : ∀ j, j < k → (l.getD j z_api_Value).f_Text.length ≤ 1000 := hb
 refine T.seq ?_
 refine sR [] ?_
 by_cases hq1 : ((k : Nat) : Int) < ((l.length : Nat) : Int)
 ·refine cT (dT hq1) ?_
  refine T.skip (nT (T.seq ?_))
  refine T.block ?_
  refine sR [hR 2 rfl rfl (q_index tl nl (k_api_Value false) l k (k := .i64) (i := ((k : Nat) : Int)) Try.underlying59 iat_24 rfl rfl (by omega) (lt_of rfl) trivial)] ?_
  by_cases hq2 : (((l.getD k z_api_Value).f_Text.length : Nat) : Int) > 1000
  ·refine cT (dT hq2) ?_
   refine sR [] ?_
   refine T.ret (rB (rT (rT (rB (rT ?_)))))
   exact eRt 2 (.one (dB false)) [] (cB (by exact dF (shortL_no (k := k) (by omega) ‹_›))) trivial
  refine cF (dF hq2) ?_
  refine T.skip ?_
  refine nB ?_
  refine nT ?_
  refine xK [hR 1 rfl rfl (r_bin (u1 := .int .i64 ((k : Nat) : Int)) (u2 := .int .i64 1) (v := .int .i64 ((k + 1 : Nat) : Int)) (b_add (by rw [IntKind.wrap_i64]; omega)) (lt_of rfl) ⟨rfl, trivial⟩)] ?_
  refine nL (k + 1) ⟨(show (k + 1) ≤ l.length from (by omega)), (show ∀ j, j < (k + 1) → (l.getD j z_api_Value).f_Text.length ≤ 1000 from (all_succ hb (by omega)))⟩ (show (l.length - (k + 1) : Nat) < l.length - k from (by omega)) (fun _ _ hG => Gs.iI [] (bm 4 13) rfl rfl hG)
 refine cF (dF hq1) ?_
 refine T.exit ?_
 refine xT ?_
 refine xT ?_
 refine xH ?_
 refine nT ?_
 refine sR [] ?_
 refine T.ret ?_
 exact eRt 2 (.one (dB true)) [] (cB (by exact dT (shortL_yes (k := k) (by omega) hb))) trivial
theorem value_size (n : Int) (hn : inR n) : Holds Try.prog 104 ⟨[vI n], [], dv (.int .u64 ((n.natAbs : Nat) : Int)), []⟩ := by
 refine Holds.of Try.func104 rfl (N := 10) Try.ntmps104 rfl fun w0 B0 S0 U0 => ?_
 show T _ (mkBase 10 0 w0 S0 U0 B0) ⟨[vI n], []⟩ _ _
 have hn1 := hn.1
 have hn2 := hn.2
 refine sR [] ?_
 refine T.seq ?_
 refine sR [] ?_
 by_cases hq1 : n < 0
 ·refine cT (dT hq1) ?_
  refine sR [hR 1 rfl rfl (r_conv (u := .int .i64 n) (v := .int .u64 ((u64 n : Nat) : Int)) (c_int Try.underlying2 Try.underlying64 (by rw [IntKind.wrap_u64]; unfold u64; omega)) (lt_of rfl) trivial),
    hR 2 rfl rfl (r_un (u := .int .u64 ((u64 n : Nat) : Int)) (v := .int .u64 ((n.natAbs : Nat) : Int)) (u_neg (by rw [IntKind.wrap_u64]; unfold u64; omega)) (lt_of rfl) trivial)] ?_
  refine T.ret (rT ?_)
  exact eRt 2 (.one (.d (.val (.int .u64 ((n.natAbs : Nat) : Int))))) [] rfl trivial
 refine cF (dF hq1) ?_
 refine T.skip (nT ?_)
 refine sR [hR 1 rfl rfl (r_conv (u := .int .i64 n) (v := .int .u64 ((u64 n : Nat) : Int)) (c_int Try.underlying2 Try.underlying64 (by rw [IntKind.wrap_u64]; unfold u64; omega)) (lt_of rfl) trivial)] ?_
 refine T.ret ?_
 exact eRt 2 (.one (.d (.val (.int .u64 ((u64 n : Nat) : Int))))) [] (congrArg (fun (q1 : Int) => (dv (.int .u64 q1) : AV)) (by ((unfold u64; omega)))) trivial
end Go.Proofs.Ytlabmehgcfgigaa.Q
