import Derived.Test.YtlabmehgcfgigaaC04n6
namespace Go.Proofs.Ytlabmehgcfgigaa.Q
open Go Go.RowKit
set_option linter.unusedVariables false
set_option linter.unusedSimpArgs false
set_option maxRecDepth 100000
set_option maxHeartbeats 4000000
-- quaestor/quaestorref04.Int
theorem ref04_Int (n : Int) : Holds Try.prog 19 ⟨[dv (.int .i64 n)], [], .tv (.agg [.d (.val (.int .i64 (intV n).f_Kind)), .d (.val (.int .i64 (intV n).f_Int)), .d (.val (.bool (intV n).f_Bool)), .d (.val (strV (intV n).f_Text)), .d (.val (.float .f64 (intV n).f_Num))]), []⟩ := by
  refine Holds.of Try.func19 rfl (N := 5) Try.ntmps19 rfl fun w0 B0 S0 U0 => ?_
  show T _ (mkBase 5 0 w0 S0 U0 B0) ⟨[dv (.int .i64 n)], []⟩ _ _
  refine T.seq ?_
  refine xR [] (by kernel_rfl) (by kernel_rfl) ?_
  refine nT ?_
  refine T.seq ?_
  refine xR [] (by kernel_rfl) (by kernel_rfl) ?_
  refine nT ?_
  refine T.ret ?_
  exact tE (.inl rfl) [.c 2 0 24 0 24 [.d (.val (.int .i64 1)), .d (.val (.int .i64 n)), .d (.val (.bool false)), .d (.val (strV [])), .d (.val (.float .f64 0))] (.agg [.d (.val (.int .i64 1)), .d (.val (.int .i64 n)), .d (.val (.bool false)), .d (.val (strV [])), .d (.val (.float .f64 0))])] ⟨⟨rfl, rfl, by kernel_rfl, by kernel_rfl, .inl ⟨5, wide_24, rfl, Nat.le_of_ble_eq_true rfl⟩⟩, trivial⟩ [] (by have e1 : ((intV n).f_Kind : Int) = 1 := (by rfl); have e2 : ((intV n).f_Int : Int) = n := (by rfl); have e3 : ((intV n).f_Bool : Bool) = false := (by rfl); have e4 : ((intV n).f_Text : List UInt8) = [] := (by rfl); have e5 : ((intV n).f_Num : Nat) = 0 := (by rfl); have hE := congr (congr (congr (congr (congrArg (fun (q1 : Int) (q2 : Int) (q3 : Bool) (q4 : List UInt8) (q5 : Nat) => (.tv (.agg [.d (.val (.int .i64 q1)), .d (.val (.int .i64 q2)), .d (.val (.bool q3)), .d (.val (strV q4)), .d (.val (.float .f64 q5))]) : AV)) e1) e2) e3) e4) e5; exact hE) rfl rfl rfl rfl rfl trivial
end Go.Proofs.Ytlabmehgcfgigaa.Q
namespace Go.Proofs.Ytlabmehgcfgigaa.Q
open Go Go.RowKit
set_option linter.unusedVariables false
set_option linter.unusedSimpArgs false
set_option maxRecDepth 100000
set_option maxHeartbeats 4000000
-- quaestor/value.ofNum
theorem value_ofNum (n : Nat) : Holds Try.prog 52 ⟨[dv (.float .f64 n)], [], .tv (.agg [.d (.val (.int .i64 (numV n).f_Kind)), .d (.val (.int .i64 (numV n).f_Int)), .d (.val (.bool (numV n).f_Bool)), .d (.val (strV (numV n).f_Text)), .d (.val (.float .f64 (numV n).f_Num))]), []⟩ := by
  refine Holds.of Try.func52 rfl (N := 7) Try.ntmps52 rfl fun w0 B0 S0 U0 => ?_
  show T _ (mkBase 7 0 w0 S0 U0 B0) ⟨[dv (.float .f64 n)], []⟩ _ _
  refine T.seq ?_
  refine xR [] (by kernel_rfl) (by kernel_rfl) ?_
  refine nT ?_
  refine T.seq ?_
  refine xR [hR 1 rfl rfl (r_call (value_code n ) Try.func47 rfl (by decide) [] [] (l := [(.tmp 3, dv (.float .f64 n))]) [] rfl 0 0 rfl rfl rfl rfl rfl rfl rfl rfl rfl ⟨.inl ⟨rfl, rfl⟩, trivial⟩ rfl (fun b hb => by cases hb) (.inl rfl) (lt_of rfl) trivial),
    hR 2 rfl rfl (r_ext1 (u := .int .u64 ((bitsF n : Nat) : Int)) (v := .float .f64 (bitsF n)) (e := Extern.MathFloatBits.float64frombits) Try.func85 (by kernel_rfl) (by kernel_rfl) (by kernel_rfl) (by kernel_rfl) (fun w => rfl) (lt_of rfl) trivial)] (by kernel_rfl) (by kernel_rfl) ?_
  refine nT ?_
  refine T.ret ?_
  exact tE (.inl rfl) [.c 2 0 24 0 24 [.d (.val (.int .i64 4)), .d (.val (.int .i64 0)), .d (.val (.bool false)), .d (.val (strV [])), .d (.val (.float .f64 (bitsF n)))] (.agg [.d (.val (.int .i64 4)), .d (.val (.int .i64 0)), .d (.val (.bool false)), .d (.val (strV [])), .d (.val (.float .f64 (bitsF n)))])] ⟨⟨rfl, rfl, by kernel_rfl, by kernel_rfl, .inl ⟨5, wide_24, rfl, Nat.le_of_ble_eq_true rfl⟩⟩, trivial⟩ [] (by have e1 : ((numV n).f_Kind : Int) = 4 := (by rfl); have e2 : ((numV n).f_Int : Int) = 0 := (by rfl); have e3 : ((numV n).f_Bool : Bool) = false := (by rfl); have e4 : ((numV n).f_Text : List UInt8) = [] := (by rfl); have e5 : ((numV n).f_Num : Nat) = bitsF n := (by rfl); have hE := congr (congr (congr (congr (congrArg (fun (q1 : Int) (q2 : Int) (q3 : Bool) (q4 : List UInt8) (q5 : Nat) => (.tv (.agg [.d (.val (.int .i64 q1)), .d (.val (.int .i64 q2)), .d (.val (.bool q3)), .d (.val (strV q4)), .d (.val (.float .f64 q5))]) : AV)) e1) e2) e3) e4) e5; exact hE) rfl rfl rfl rfl rfl trivial
end Go.Proofs.Ytlabmehgcfgigaa.Q
namespace Go.Proofs.Ytlabmehgcfgigaa.Q
open Go Go.RowKit
set_option linter.unusedVariables false
set_option linter.unusedSimpArgs false
set_option maxRecDepth 100000
set_option maxHeartbeats 4000000
theorem iat_52 : Try.prog.info? 52 = some Try.t52 := by kernel_rfl
theorem zero_52 : Zero Try.prog 52 [.slice none 0 0, .int .i64 0, .int .i64 0] := ⟨_, _, iat_52, rfl, rfl⟩
theorem places_52 : Places Try.prog 52 [(0, 1), (1, 1), (2, 1)] := ⟨_, Try.underlying52, ⟨⟨rfl, _, iat_47, rfl⟩, ⟨⟨rfl, _, iat_3, rfl⟩, ⟨⟨rfl, _, iat_32, rfl⟩, trivial⟩⟩⟩⟩
-- quaestor/quaestorref04.NaN
theorem ref04_NaN : Holds Try.prog 49 ⟨[], [], dv (.float .f64 9221120237041090561), []⟩ := by
  refine Holds.of Try.func49 rfl (N := 7) Try.ntmps49 rfl fun w0 B0 S0 U0 => ?_
  show T _ (mkBase 7 0 w0 S0 U0 B0) ⟨[], []⟩ _ _
  refine T.seq ?_
  refine xR [] (by kernel_rfl) (by kernel_rfl) ?_
  refine nT ?_
  refine T.seq ?_
  refine xR [hR 0 rfl rfl (q_buildSlice 0 5 kU8 kU8_ok [(127 : UInt8), (248 : UInt8), (0 : UInt8), (0 : UInt8), (0 : UInt8), (0 : UInt8), (0 : UInt8), (1 : UInt8)] [⟨0, .const (.int .u8 127), .one (.d (.val (.int .u8 127))), 0⟩, ⟨1, .const (.int .u8 248), .one (.d (.val (.int .u8 248))), 1⟩, ⟨2, .const (.int .u8 0), .one (.d (.val (.int .u8 0))), 2⟩, ⟨3, .const (.int .u8 0), .one (.d (.val (.int .u8 0))), 3⟩, ⟨4, .const (.int .u8 0), .one (.d (.val (.int .u8 0))), 4⟩, ⟨5, .const (.int .u8 0), .one (.d (.val (.int .u8 0))), 5⟩, ⟨6, .const (.int .u8 0), .one (.d (.val (.int .u8 0))), 6⟩, ⟨7, .const (.int .u8 1), .one (.d (.val (.int .u8 1))), 7⟩] (cs := [.d (.val (.int .u8 127)), .d (.val (.int .u8 248)), .d (.val (.int .u8 0)), .d (.val (.int .u8 0)), .d (.val (.int .u8 0)), .d (.val (.int .u8 0)), .d (.val (.int .u8 0)), .d (.val (.int .u8 1))]) Try.underlying47 iat_5 rfl zero_5 rfl rfl rfl (Nat.le_of_ble_eq_true rfl) (part_cons rfl rfl (Nat.le_of_ble_eq_true rfl) (part_cons rfl rfl (Nat.le_of_ble_eq_true rfl) (part_cons rfl rfl (Nat.le_of_ble_eq_true rfl) (part_cons rfl rfl (Nat.le_of_ble_eq_true rfl) (part_cons rfl rfl (Nat.le_of_ble_eq_true rfl) (part_cons rfl rfl (Nat.le_of_ble_eq_true rfl) (part_cons rfl rfl (Nat.le_of_ble_eq_true rfl) (part_cons rfl rfl (Nat.le_of_ble_eq_true rfl) part_ok)))))))) (by kernel_rfl) (wk_eq (by kernel_rfl)) (lt_of rfl) ⟨rfl, ⟨rfl, ⟨rfl, ⟨rfl, ⟨rfl, ⟨rfl, ⟨rfl, ⟨rfl, trivial⟩⟩⟩⟩⟩⟩⟩⟩)] (by kernel_rfl) (by kernel_rfl) ?_
  refine nT ?_
  refine T.seq ?_
  refine T.turn (s' := ⟨[dv (.float .f64 0), pv 1 0], [.live (arrK 5 kU8 [(127 : UInt8), (248 : UInt8), (0 : UInt8), (0 : UInt8), (0 : UInt8), (0 : UInt8), (0 : UInt8), (1 : UInt8)]), .live (.box 52 [.own 0 kU8.sz 0 [(127 : UInt8), (248 : UInt8), (0 : UInt8), (0 : UInt8), (0 : UInt8), (0 : UInt8), (0 : UInt8), (1 : UInt8)].length, .d (.val (.int .i64 0)), .d (.val (.int .i64 0))])]⟩) (fun _ _ hG => Gs.norm (by kernel_rfl) hG) ?_
  refine T.turn (s' := ⟨[dv (.float .f64 0), pv 1 0], [.dead, .live (.box 52 [.d (dsl false false kU8 [(127 : UInt8), (248 : UInt8), (0 : UInt8), (0 : UInt8), (0 : UInt8), (0 : UInt8), (0 : UInt8), (1 : UInt8)]), .d (.val (.int .i64 0)), .d (.val (.int .i64 0))])]⟩) (fun _ _ hG => Gs.freeze (s := ⟨[dv (.float .f64 0), pv 1 0], [.live (arrK 5 kU8 [(127 : UInt8), (248 : UInt8), (0 : UInt8), (0 : UInt8), (0 : UInt8), (0 : UInt8), (0 : UInt8), (1 : UInt8)]), .live (.box 52 [.own 0 kU8.sz 0 [(127 : UInt8), (248 : UInt8), (0 : UInt8), (0 : UInt8), (0 : UInt8), (0 : UInt8), (0 : UInt8), (1 : UInt8)].length, .d (.val (.int .i64 0)), .d (.val (.int .i64 0))])]⟩) 0 (el := elOf kU8 [(127 : UInt8), (248 : UInt8), (0 : UInt8), (0 : UInt8), (0 : UInt8), (0 : UInt8), (0 : UInt8), (1 : UInt8)]) (sz := kU8.sz) (n := [(127 : UInt8), (248 : UInt8), (0 : UInt8), (0 : UInt8), (0 : UInt8), (0 : UInt8), (0 : UInt8), (1 : UInt8)].length) rfl ⟨(.inl rfl), ⟨(.inl rfl), trivial⟩⟩ ⟨(.inl ⟨rfl, rfl⟩), ⟨(.inr ⟨by decide, .inr ⟨rfl, ⟨(.inr ⟨rfl, rfl, rfl, (fun h => by cases h), rfl, rfl, by omega, fun i j _ => by rw [Nat.zero_add]⟩), ⟨(.inl rfl), ⟨(.inl rfl), trivial⟩⟩⟩⟩⟩), trivial⟩⟩ hG) ?_
  refine xR [hR 1 rfl rfl (r_call (ref01_rNum [(127 : UInt8), (248 : UInt8), (0 : UInt8), (0 : UInt8), (0 : UInt8), (0 : UInt8), (0 : UInt8), (1 : UInt8)] 0 0 (by omega) (by (simp [maxLen, -List.getD_eq_getElem?_getD] <;> omega))) Try.func71 rfl (by decide) [1] [] (l := [(.tmp 5, pv 1 0)]) [] rfl 1 1 rfl rfl rfl rfl rfl rfl rfl rfl rfl ⟨.inl ⟨rfl, rfl⟩, trivial⟩ rfl (fun b hb => by cases hb) (.inl rfl) (lt_of rfl) trivial)] (by kernel_rfl) (by kernel_rfl) ?_
  refine nT ?_
  refine T.ret ?_
  exact tE (.inl rfl) [.t 0 (.one (.d (.val (.float .f64 (rdN ([(127 : UInt8), (248 : UInt8), (0 : UInt8), (0 : UInt8), (0 : UInt8), (0 : UInt8), (0 : UInt8), (1 : UInt8)].drop 0) 0)))))] ⟨⟨rfl, by kernel_rfl⟩, trivial⟩ [] (by have e1 : (9221120237041090561 : Nat) = (rdN ([(127 : UInt8), (248 : UInt8), (0 : UInt8), (0 : UInt8), (0 : UInt8), (0 : UInt8), (0 : UInt8), (1 : UInt8)].drop 0) 0) := (by rfl); have hE := congrArg (fun (q1 : Nat) => (dv (.float .f64 q1) : AV)) e1; exact hE) rfl rfl rfl rfl rfl trivial
end Go.Proofs.Ytlabmehgcfgigaa.Q
namespace Go.Proofs.Ytlabmehgcfgigaa.Q
open Go Go.RowKit
set_option linter.unusedVariables false
set_option linter.unusedSimpArgs false
set_option maxRecDepth 100000
set_option maxHeartbeats 4000000
-- quaestor/quaestorref04.Num
theorem ref04_Num (n : Nat) : Holds Try.prog 30 ⟨[dv (.float .f64 n)], [], .tv (.agg [.d (.val (.int .i64 (numV n).f_Kind)), .d (.val (.int .i64 (numV n).f_Int)), .d (.val (.bool (numV n).f_Bool)), .d (.val (strV (numV n).f_Text)), .d (.val (.float .f64 (numV n).f_Num))]), []⟩ := by
  refine Holds.of Try.func30 rfl (N := 9) Try.ntmps30 rfl fun w0 B0 S0 U0 => ?_
  show T _ (mkBase 9 0 w0 S0 U0 B0) ⟨[dv (.float .f64 n)], []⟩ _ _
  refine T.seq ?_
  refine xR [] (by kernel_rfl) (by kernel_rfl) ?_
  refine nT ?_
  refine T.seq ?_
  refine T.seq ?_
  refine xR [hR 2 rfl rfl (r_bin (u1 := .float .f64 n) (u2 := .float .f64 n) (v := .bool (nanB n)) b_nan (lt_of rfl) trivial)] (by kernel_rfl) (by kernel_rfl) ?_
  refine nT ?_
  by_cases hq1 : (nanB n) = true
  · refine T.condT (by kernel_rfl) hq1 ?_
    refine xR [hR 0 rfl rfl (r_call (ref04_NaN  ) Try.func49 rfl (by decide) [] [] (l := []) [] rfl 0 0 rfl rfl rfl rfl rfl rfl rfl rfl rfl trivial rfl (fun b hb => by cases hb) (.inl rfl) (lt_of rfl) trivial)] (by kernel_rfl) (by kernel_rfl) ?_
    refine nT ?_
    refine T.seq ?_
    refine xR [] (by kernel_rfl) (by kernel_rfl) ?_
    refine nT ?_
    refine T.ret ?_
    exact tE (.inl rfl) [.c 2 0 24 0 24 [.d (.val (.int .i64 4)), .d (.val (.int .i64 0)), .d (.val (.bool false)), .d (.val (strV [])), .d (.val (.float .f64 9221120237041090561))] (.agg [.d (.val (.int .i64 4)), .d (.val (.int .i64 0)), .d (.val (.bool false)), .d (.val (strV [])), .d (.val (.float .f64 9221120237041090561))])] ⟨⟨rfl, rfl, by kernel_rfl, by kernel_rfl, .inl ⟨5, wide_24, rfl, Nat.le_of_ble_eq_true rfl⟩⟩, trivial⟩ [] (by have e1 : ((numV n).f_Kind : Int) = 4 := (by rfl); have e2 : ((numV n).f_Int : Int) = 0 := (by rfl); have e3 : ((numV n).f_Bool : Bool) = false := (by rfl); have e4 : ((numV n).f_Text : List UInt8) = [] := (by rfl); have e5 : ((numV n).f_Num : Nat) = 9221120237041090561 := (by ((simp [numV, bitsF, *]; done))); have hE := congr (congr (congr (congr (congrArg (fun (q1 : Int) (q2 : Int) (q3 : Bool) (q4 : List UInt8) (q5 : Nat) => (.tv (.agg [.d (.val (.int .i64 q1)), .d (.val (.int .i64 q2)), .d (.val (.bool q3)), .d (.val (strV q4)), .d (.val (.float .f64 q5))]) : AV)) e1) e2) e3) e4) e5; exact hE) rfl rfl rfl rfl rfl trivial
  · replace hq1 := Bool.eq_false_iff.2 hq1
    refine T.condF (by kernel_rfl) hq1 ?_
    refine T.skip ?_
    refine nT ?_
    refine T.seq ?_
    refine xR [] (by kernel_rfl) (by kernel_rfl) ?_
    refine nT ?_
    refine T.ret ?_
    exact tE (.inl rfl) [.c 2 0 24 0 24 [.d (.val (.int .i64 4)), .d (.val (.int .i64 0)), .d (.val (.bool false)), .d (.val (strV [])), .d (.val (.float .f64 n))] (.agg [.d (.val (.int .i64 4)), .d (.val (.int .i64 0)), .d (.val (.bool false)), .d (.val (strV [])), .d (.val (.float .f64 n))])] ⟨⟨rfl, rfl, by kernel_rfl, by kernel_rfl, .inl ⟨5, wide_24, rfl, Nat.le_of_ble_eq_true rfl⟩⟩, trivial⟩ [] (by have e1 : ((numV n).f_Kind : Int) = 4 := (by rfl); have e2 : ((numV n).f_Int : Int) = 0 := (by rfl); have e3 : ((numV n).f_Bool : Bool) = false := (by rfl); have e4 : ((numV n).f_Text : List UInt8) = [] := (by rfl); have e5 : ((numV n).f_Num : Nat) = n := (by ((simp [numV, bitsF, *]; done))); have hE := congr (congr (congr (congr (congrArg (fun (q1 : Int) (q2 : Int) (q3 : Bool) (q4 : List UInt8) (q5 : Nat) => (.tv (.agg [.d (.val (.int .i64 q1)), .d (.val (.int .i64 q2)), .d (.val (.bool q3)), .d (.val (strV q4)), .d (.val (.float .f64 q5))]) : AV)) e1) e2) e3) e4) e5; exact hE) rfl rfl rfl rfl rfl trivial
end Go.Proofs.Ytlabmehgcfgigaa.Q
namespace Go.Proofs.Ytlabmehgcfgigaa.Q
open Go Go.RowKit
set_option linter.unusedVariables false
set_option linter.unusedSimpArgs false
set_option maxRecDepth 100000
set_option maxHeartbeats 4000000
-- quaestor/quaestorlaw04.negative
theorem law_negative : Holds Try.prog 50 ⟨[], [], dv (.float .f64 9223372036854775808), []⟩ := by
  refine Holds.of Try.func50 rfl (N := 4) Try.ntmps50 rfl fun w0 B0 S0 U0 => ?_
  show T _ (mkBase 4 0 w0 S0 U0 B0) ⟨[], []⟩ _ _
  refine T.seq ?_
  refine xR [] (by kernel_rfl) (by kernel_rfl) ?_
  refine nT ?_
  refine T.seq ?_
  refine xR [] (by kernel_rfl) (by kernel_rfl) ?_
  refine nT ?_
  refine T.seq ?_
  refine xR [hR 1 rfl rfl (r_un (u := .float .f64 0) (v := .float .f64 (negF 0)) u_negF (lt_of rfl) trivial)] (by kernel_rfl) (by kernel_rfl) ?_
  refine nT ?_
  refine T.ret ?_
  exact tE (.inl rfl) [.t 0 (.one (.d (.val (.float .f64 9223372036854775808))))] ⟨⟨rfl, by kernel_rfl⟩, trivial⟩ [] rfl rfl rfl rfl rfl rfl trivial
end Go.Proofs.Ytlabmehgcfgigaa.Q
namespace Go.Proofs.Ytlabmehgcfgigaa.Q
set_option linter.unusedVariables false
set_option linter.unusedSimpArgs false
set_option maxRecDepth 100000

/-! ### Reckoning with ints -/

def shortL (l : List Val) : Prop := ∀ x, x ∈ l → x.f_Text.length ≤ 1000
instance (l : List Val) : Decidable (shortL l) := inferInstanceAs (Decidable (∀ x, x ∈ l → _))
theorem shortL_no {l : List Val} {k : Nat} (hk : k < l.length) (h : (((l.getD k z_api_Value).f_Text.length : Nat) : Int) > 1000) : ¬ shortL l := fun h1 => by
  have := h1 _ (getD_mem (z := z_api_Value) hk)
  omega
theorem shortL_yes {l : List Val} {k : Nat} (hk : l.length ≤ k) (h : ∀ j, j < k → (l.getD j z_api_Value).f_Text.length ≤ 1000) : shortL l := fun x hx => by
  obtain ⟨j, hj, rfl⟩ := List.getElem_of_mem hx
  have := h j (by omega)
  rwa [List.getD_eq_getElem?_getD, List.getElem?_eq_getElem hj] at this
theorem mul_split (x y : Nat) : x * y = 18446744073709551616 * (x / 2 ^ 32 * (y / 2 ^ 32)) + 4294967296 * (x / 2 ^ 32 * (y % 4294967296)) + 4294967296 * (x % 4294967296 * (y / 2 ^ 32)) + x % 4294967296 * (y % 4294967296) := by
  have h : ∀ a b c d : Nat, (4294967296 * a + b) * (4294967296 * c + d) = 18446744073709551616 * (a * c) + 4294967296 * (a * d) + 4294967296 * (b * c) + b * d := fun a b c d => by
    rw [Nat.add_mul, Nat.mul_add, Nat.mul_add]
    have e1 : 4294967296 * a * (4294967296 * c) = 18446744073709551616 * (a * c) := by rw [Nat.mul_mul_mul_comm]
    have e2 : 4294967296 * a * d = 4294967296 * (a * d) := Nat.mul_assoc _ _ _
    have e3 : b * (4294967296 * c) = 4294967296 * (b * c) := by rw [Nat.mul_left_comm]
    omega
  have hx := Nat.div_add_mod x 4294967296
  have hy := Nat.div_add_mod y 4294967296
  have hp : (2 : Nat) ^ 32 = 4294967296 := by decide
  rw [hp, ← h, hx, hy]
theorem mul_bd {a b m n : Nat} (ha : a ≤ m) (hb : b ≤ n) : a * b ≤ m * n := Nat.mul_le_mul ha hb
def inR (n : Int) : Prop := -9223372036854775808 ≤ n ∧ n ≤ 9223372036854775807
instance (n : Int) : Decidable (inR n) := inferInstanceAs (Decidable (_ ∧ _))
def prodN (a b : Int) : Int := if decide (a < 0) ≠ decide (b < 0) then IntKind.i64.wrap (0 - toI64 (a.natAbs * b.natAbs % 18446744073709551616)) else toI64 (a.natAbs * b.natAbs % 18446744073709551616)
theorem prodN_no {a b : Int} (hs : decide (a < 0) ≠ decide (b < 0)) : prodN a b = IntKind.i64.wrap (0 - toI64 (a.natAbs * b.natAbs % 18446744073709551616)) := if_pos hs
theorem prodN_yes {a b : Int} (hs : ¬ decide (a < 0) ≠ decide (b < 0)) : prodN a b = toI64 (a.natAbs * b.natAbs % 18446744073709551616) := if_neg hs
theorem mul_sign (a b : Int) : a * b = if decide (a < 0) ≠ decide (b < 0) then -(((a.natAbs * b.natAbs : Nat)) : Int) else (((a.natAbs * b.natAbs : Nat)) : Int) := by
  rw [Int.natCast_mul]
  by_cases ha : a < 0
  · by_cases hb : b < 0
    · rw [if_neg (by simp [ha, hb]), show ((a.natAbs : Nat) : Int) = -a by omega, show ((b.natAbs : Nat) : Int) = -b by omega, Int.neg_mul_neg]
    · rw [if_pos (by simp [ha, hb]), show ((a.natAbs : Nat) : Int) = -a by omega, show ((b.natAbs : Nat) : Int) = b by omega, Int.neg_mul, Int.neg_neg]
  · by_cases hb : b < 0
    · rw [if_pos (by simp [ha, hb]), show ((a.natAbs : Nat) : Int) = a by omega, show ((b.natAbs : Nat) : Int) = -b by omega, Int.mul_neg, Int.neg_neg]
    · rw [if_neg (by simp [ha, hb]), show ((a.natAbs : Nat) : Int) = a by omega, show ((b.natAbs : Nat) : Int) = b by omega]
theorem prod_no {a b : Int} (hs : decide (a < 0) ≠ decide (b < 0)) : inR (a * b) ↔ (((a.natAbs * b.natAbs / 18446744073709551616 : Nat) : Int) = 0 ∧ ((a.natAbs * b.natAbs % 18446744073709551616 : Nat) : Int) ≤ 9223372036854775808) := by
  have h := mul_sign a b
  rw [if_pos hs] at h
  unfold inR
  rw [h]
  generalize a.natAbs * b.natAbs = m
  omega
theorem prod_yes {a b : Int} (hs : ¬ decide (a < 0) ≠ decide (b < 0)) : inR (a * b) ↔ (((a.natAbs * b.natAbs / 18446744073709551616 : Nat) : Int) = 0 ∧ ((a.natAbs * b.natAbs % 18446744073709551616 : Nat) : Int) < 9223372036854775808) := by
  have h := mul_sign a b
  rw [if_neg hs] at h
  unfold inR
  rw [h]
  generalize a.natAbs * b.natAbs = m
  omega
theorem prod_eq {a b : Int} (h : inR (a * b)) : prodN a b = a * b := by
  have h1 := mul_sign a b
  unfold prodN
  by_cases hs : decide (a < 0) ≠ decide (b < 0)
  · rw [if_pos hs]
    rw [if_pos hs] at h1
    rw [h1] at h ⊢
    unfold inR at h
    rw [IntKind.wrap_i64]
    generalize a.natAbs * b.natAbs = m at h ⊢
    unfold toI64
    split <;> omega
  · rw [if_neg hs]
    rw [if_neg hs] at h1
    rw [h1] at h ⊢
    unfold inR at h
    generalize a.natAbs * b.natAbs = m at h ⊢
    unfold toI64
    split <;> omega
def okOp (op : Int) : Prop := 4 ≤ op ∧ op ≤ 7 ∨ op = 14 ∨ op = 15
instance (op : Int) : Decidable (okOp op) := inferInstanceAs (Decidable (_ ∨ _ ∨ _))
def resN (n : Int) : Int := if inR n then n else 0
def resE (n : Int) : Int := if inR n then 0 else 41
def intsN (op a b : Int) : Int := if op = 4 then resN (a + b) else if op = 5 then resN (a - b) else if op = 6 then resN (a * b) else if op = 7 then (if b = 0 then 0 else resN (a.tdiv b)) else if op = 14 then min a b else max a b
def intsE (op a b : Int) : Int := if op = 4 then resE (a + b) else if op = 5 then resE (a - b) else if op = 6 then resE (a * b) else if op = 7 then (if b = 0 then 42 else resE (a.tdiv b)) else 0
theorem ints_4 (a b : Int) : intsN 4 a b = resN (a + b) ∧ intsE 4 a b = resE (a + b) := ⟨rfl, rfl⟩
theorem ints_5 (a b : Int) : intsN 5 a b = resN (a - b) ∧ intsE 5 a b = resE (a - b) := ⟨rfl, rfl⟩
theorem ints_6 (a b : Int) : intsN 6 a b = resN (a * b) ∧ intsE 6 a b = resE (a * b) := ⟨rfl, rfl⟩
theorem ints_7 {a b : Int} (h : ¬ b = 0) : intsN 7 a b = resN (a.tdiv b) ∧ intsE 7 a b = resE (a.tdiv b) := ⟨if_neg h, if_neg h⟩
theorem ints_70 {a b : Int} (h : b = 0) : intsN 7 a b = 0 ∧ intsE 7 a b = 42 := ⟨if_pos h, if_pos h⟩
theorem res_yes {n : Int} (h : inR n) : resN n = n ∧ resE n = 0 := ⟨if_pos h, if_pos h⟩
theorem res_no {n : Int} (h : ¬ inR n) : resN n = 0 ∧ resE n = 41 := ⟨if_neg h, if_neg h⟩
theorem add_ok {a b : Int} (ha : inR a) (hb : inR b) (h : decide (IntKind.i64.wrap (a + b) > a) = decide (b > 0) ∨ b = 0) : inR (a + b) := by
  unfold inR at *
  rw [decide_eq_decide, IntKind.wrap_i64] at h
  omega
theorem add_no {a b : Int} (ha : inR a) (hb : inR b) (h : ¬ decide (IntKind.i64.wrap (a + b) > a) = decide (b > 0)) (h0 : ¬ b = 0) : ¬ inR (a + b) := by
  unfold inR at *
  rw [decide_eq_decide, IntKind.wrap_i64] at h
  omega
theorem sub_ok {a b : Int} (ha : inR a) (hb : inR b) (h : decide (IntKind.i64.wrap (a - b) < a) = decide (b > 0) ∨ b = 0) : inR (a - b) := by
  unfold inR at *
  rw [decide_eq_decide, IntKind.wrap_i64] at h
  omega
theorem sub_no {a b : Int} (ha : inR a) (hb : inR b) (h : ¬ decide (IntKind.i64.wrap (a - b) < a) = decide (b > 0)) (h0 : ¬ b = 0) : ¬ inR (a - b) := by
  unfold inR at *
  rw [decide_eq_decide, IntKind.wrap_i64] at h
  omega
theorem wrap_of {n : Int} (h : inR n) : IntKind.i64.wrap n = n := by unfold inR at h; rw [IntKind.wrap_i64]; omega
theorem tdiv_bd (a b : Int) : (a.tdiv b).natAbs ≤ a.natAbs := by rw [Int.natAbs_tdiv]; exact Nat.div_le_self _ _
theorem tdiv_m1 (a : Int) : a.tdiv (-1) = -a := by rw [Int.tdiv_neg, Int.tdiv_one]
theorem div_ok {a b : Int} (ha : inR a) (hb : ¬ b = 0) (h : a ≠ -9223372036854775808 ∨ b ≠ -1) : inR (a.tdiv b) := by
  have h1 := tdiv_bd a b
  unfold inR at *
  by_cases hm : a.tdiv b = 9223372036854775808
  · exfalso
    have ha' : a = -9223372036854775808 := by omega
    subst ha'
    rcases h with h | h
    · exact h rfl
    · have e := Int.mul_tdiv_add_tmod (-9223372036854775808) b
      rw [hm] at e
      have h2 := Int.natAbs_tmod (-9223372036854775808) b
      have h3 : ((-9223372036854775808 : Int).tmod b).natAbs < b.natAbs := by rw [h2]; exact Nat.mod_lt _ (by omega)
      have h4 : ((-9223372036854775808 : Int).tdiv b).natAbs = 9223372036854775808 / b.natAbs := Int.natAbs_tdiv _ _
      rw [hm] at h4
      have h5 : b.natAbs = 1 := by
        rcases Nat.lt_or_ge b.natAbs 2 with h6 | h6
        · omega
        · have := Nat.div_le_div_left (a := 9223372036854775808) h6 (by decide)
          have h7 : (9223372036854775808 : Nat) / 2 = 4611686018427387904 := by decide
          rw [h7] at this
          rw [← h4] at this
          exact absurd this (by decide)
      have h8 : b = 1 ∨ b = -1 := by omega
      rcases h8 with rfl | rfl
      · rw [Int.tdiv_one] at hm; cases hm
      · exact h rfl
  · omega
theorem div_no : ¬ inR ((-9223372036854775808 : Int).tdiv (-1)) := by decide
theorem div_no2 {a b : Int} (h : ¬ a ≠ -9223372036854775808) (h' : ¬ b ≠ -1) : ¬ inR (a.tdiv b) := by rw [Classical.not_not.1 h, Classical.not_not.1 h']; exact div_no
def reckV (op : Int) (a b : Val) : Val := if okOp op ∧ bothV a b ∧ a.f_Kind = 1 ∧ intsE op a.f_Int b.f_Int = 0 then intV (intsN op a.f_Int b.f_Int) else z_api_Value
def reckE (op : Int) (a b : Val) : Int := if okOp op then (if bothV a b ∧ a.f_Kind = 1 then intsE op a.f_Int b.f_Int else 40) else 1
section
variable {op : Int} {a b : Val}
theorem reck_arg (h : ¬ okOp op) : reckV op a b = z_api_Value ∧ reckE op a b = 1 := ⟨if_neg fun h' => h h'.1, if_neg h⟩
theorem reck_type (ho : okOp op) (h : ¬ (bothV a b ∧ a.f_Kind = 1)) : reckV op a b = z_api_Value ∧ reckE op a b = 40 := ⟨if_neg fun h' => h ⟨h'.2.1, h'.2.2.1⟩, by rw [reckE, if_pos ho, if_neg h]⟩
theorem reck_err (ho : okOp op) (h : bothV a b) (hk : a.f_Kind = 1) (he : intsE op a.f_Int b.f_Int ≠ 0) : reckV op a b = z_api_Value ∧ reckE op a b = intsE op a.f_Int b.f_Int := ⟨if_neg fun h' => he h'.2.2.2, by rw [reckE, if_pos ho, if_pos ⟨h, hk⟩]⟩
theorem reck_ok (ho : okOp op) (h : bothV a b) (hk : a.f_Kind = 1) (he : ¬ intsE op a.f_Int b.f_Int ≠ 0) : reckV op a b = intV (intsN op a.f_Int b.f_Int) ∧ reckE op a b = 0 := ⟨if_pos ⟨ho, h, hk, Classical.not_not.1 he⟩, by rw [reckE, if_pos ho, if_pos ⟨h, hk⟩]; exact Classical.not_not.1 he⟩
end
theorem good_intV (n : Int) : goodV (intV n) := good_iff.2 ⟨⟨(by show (1 : Int) ≤ 1; decide), (by show (1 : Int) ≤ 4; decide)⟩, (by show (((([] : List UInt8)).length : Nat) : Int) ≤ 32; decide), .inl rfl, .inr rfl, .inr rfl, .inr (by show ((bitsF 0 : Nat) : Int) = 0; decide +kernel)⟩
theorem both_intV (m n : Int) : bothV (intV m) (intV n) := ⟨good_intV m, good_intV n, rfl⟩
theorem reck_int {op m n : Int} (ho : okOp op) : reckE op (intV m) (intV n) = intsE op m n ∧ (intsE op m n = 0 → reckV op (intV m) (intV n) = intV (intsN op m n)) :=
  ⟨by rw [reckE, if_pos ho, if_pos ⟨both_intV m n, rfl⟩]; rfl, fun h => if_pos ⟨ho, both_intV m n, rfl, h⟩⟩
end Go.Proofs.Ytlabmehgcfgigaa.Q
namespace Go.Proofs.Ytlabmehgcfgigaa.Q
open Go Go.RowKit
set_option linter.unusedVariables false
set_option linter.unusedSimpArgs false
set_option maxRecDepth 100000
set_option maxHeartbeats 4000000
-- quaestor/quaestorlaw04.short
theorem law_short (tl : Bool) (nl : Bool) (l : List api_Value) (hl : l.length ≤ 1000) : Holds Try.prog 12 ⟨[slV tl nl (k_api_Value false) l], [], dv (.bool (decide (shortL l))), []⟩ := by
  refine Holds.of Try.func12 rfl (N := 17) Try.ntmps12 rfl fun w0 B0 S0 U0 => ?_
  show T _ (mkBase 17 0 w0 S0 U0 B0) ⟨[slV tl nl (k_api_Value false) l], []⟩ _ _
  refine T.seq ?_
  refine xR [] (by kernel_rfl) (by kernel_rfl) ?_
  refine nT ?_
  refine T.seq ?_
  refine T.seq ?_
  refine xR [] (by kernel_rfl) (by kernel_rfl) ?_
  refine nT ?_
  refine T.block ?_
  refine T.loop (ι := Nat) (fun (k : Nat) => ⟨[slV tl nl (k_api_Value false) l, aa, dv (.bool false), dv (.int .i64 ((k : Nat) : Int))], []⟩) (fun (k : Nat) => (k ≤ l.length) ∧ (∀ j, j < k → (l.getD j z_api_Value).f_Text.length ≤ 1000)) (fun (k : Nat) => l.length - k) (0) ⟨(Nat.zero_le _), (fun j hj => absurd hj (Nat.not_lt_zero _))⟩ (fun _ _ hG => Gs.into2 (s' := ⟨[slV tl nl (k_api_Value false) l, aa, dv (.bool false), dv (.int .i64 0)], []⟩) [] (bm 4 13) (t1 := [slV tl nl (k_api_Value false) l, aa, dv (.bool false), dv (.int .i64 0)]) (h1 := []) rfl rfl (by kernel_rfl) (by kernel_rfl) (by kernel_rfl) (by kernel_rfl) (by kernel_rfl) (by kernel_rfl) (by kernel_rfl) (by kernel_rfl) (by kernel_rfl) (by kernel_rfl) (by kernel_rfl) hG) ?_
  rintro k ⟨hk, hb⟩
  show T _ _ ⟨[slV tl nl (k_api_Value false) l, aa, dv (.bool false), dv (.int .i64 ((k : Nat) : Int))], []⟩ _ _
  replace hk : k ≤ l.length := hk
  replace hb : ∀ j, j < k → (l.getD j z_api_Value).f_Text.length ≤ 1000 := hb
  refine T.seq ?_
  refine T.seq ?_
  refine xR [] (by kernel_rfl) (by kernel_rfl) ?_
  refine nT ?_
  by_cases hq1 : ((k : Nat) : Int) < ((l.length : Nat) : Int)
  · refine T.condT (by kernel_rfl) (decide_eq_true hq1) ?_
    refine T.skip ?_
    refine nT ?_
    refine T.seq ?_
    refine T.block ?_
    refine T.seq ?_
    refine xR [hR 2 rfl rfl (q_index tl nl (k_api_Value false) l k (k := .i64) (i := ((k : Nat) : Int)) Try.underlying59 iat_24 rfl rfl (by omega) (lt_of rfl) trivial)] (by kernel_rfl) (by kernel_rfl) ?_
    refine nT ?_
    by_cases hq2 : (((l.getD k z_api_Value).f_Text.length : Nat) : Int) > 1000
    · refine T.condT (by kernel_rfl) (decide_eq_true hq2) ?_
      refine T.seq ?_
      refine xR [] (by kernel_rfl) (by kernel_rfl) ?_
      refine nT ?_
      refine T.ret ?_
      refine rB ?_
      refine rT ?_
      refine rT ?_
      refine rB ?_
      refine rT ?_
      exact tE (.inl rfl) [.t 2 (.one (.d (.val (.bool false))))] ⟨⟨rfl, by kernel_rfl⟩, trivial⟩ [] (by have e1 : ((decide (shortL l)) : Bool) = false := (by exact decide_eq_false (shortL_no (k := k) (by omega) (by assumption))); have hE := congrArg (fun (q1 : Bool) => (dv (.bool q1) : AV)) e1; exact hE) rfl rfl rfl rfl rfl trivial
    · refine T.condF (by kernel_rfl) (decide_eq_false hq2) ?_
      refine T.skip ?_
      refine nB ?_
      refine nT ?_
      refine xR [hR 1 rfl rfl (r_bin (u1 := .int .i64 ((k : Nat) : Int)) (u2 := .int .i64 1) (v := .int .i64 ((k + 1 : Nat) : Int)) (b_add (by rw [IntKind.wrap_i64]; omega)) (lt_of rfl) ⟨rfl, trivial⟩)] (by kernel_rfl) (by kernel_rfl) ?_
      refine nL (k + 1) ⟨(show (k + 1) ≤ l.length from (by omega)), (show ∀ j, j < (k + 1) → (l.getD j z_api_Value).f_Text.length ≤ 1000 from (all_succ hb (by omega)))⟩ (show (l.length - (k + 1) : Nat) < l.length - k from (by omega)) (fun _ _ hG => Gs.into2 (s' := ⟨[slV tl nl (k_api_Value false) l, aa, dv (.bool false), dv (.int .i64 ((k + 1 : Nat) : Int))], []⟩) [] (bm 4 13) (t1 := [slV tl nl (k_api_Value false) l, aa, dv (.bool false), dv (.int .i64 ((k + 1 : Nat) : Int))]) (h1 := []) rfl rfl (by kernel_rfl) (by kernel_rfl) (by kernel_rfl) (by kernel_rfl) (by kernel_rfl) (by kernel_rfl) (by kernel_rfl) (by kernel_rfl) (by kernel_rfl) (by kernel_rfl) (by kernel_rfl) hG)
  · refine T.condF (by kernel_rfl) (decide_eq_false hq1) ?_
    refine T.exit ?_
    refine xT ?_
    refine xT ?_
    refine xH ?_
    refine nT ?_
    refine T.seq ?_
    refine xR [] (by kernel_rfl) (by kernel_rfl) ?_
    refine nT ?_
    refine T.ret ?_
    exact tE (.inl rfl) [.t 2 (.one (.d (.val (.bool true))))] ⟨⟨rfl, by kernel_rfl⟩, trivial⟩ [] (by have e1 : ((decide (shortL l)) : Bool) = true := (by exact decide_eq_true (shortL_yes (k := k) (by omega) hb)); have hE := congrArg (fun (q1 : Bool) => (dv (.bool q1) : AV)) e1; exact hE) rfl rfl rfl rfl rfl trivial
end Go.Proofs.Ytlabmehgcfgigaa.Q
namespace Go.Proofs.Ytlabmehgcfgigaa.Q
open Go Go.RowKit
set_option linter.unusedVariables false
set_option linter.unusedSimpArgs false
set_option maxRecDepth 100000
set_option maxHeartbeats 4000000
-- quaestor/value.size
theorem value_size (n : Int) (hn : inR n) : Holds Try.prog 104 ⟨[dv (.int .i64 n)], [], dv (.int .u64 ((n.natAbs : Nat) : Int)), []⟩ := by
  refine Holds.of Try.func104 rfl (N := 10) Try.ntmps104 rfl fun w0 B0 S0 U0 => ?_
  show T _ (mkBase 10 0 w0 S0 U0 B0) ⟨[dv (.int .i64 n)], []⟩ _ _
  have hn1 := hn.1
  have hn2 := hn.2
  refine T.seq ?_
  refine xR [] (by kernel_rfl) (by kernel_rfl) ?_
  refine nT ?_
  refine T.seq ?_
  refine T.seq ?_
  refine xR [] (by kernel_rfl) (by kernel_rfl) ?_
  refine nT ?_
  by_cases hq1 : n < 0
  · refine T.condT (by kernel_rfl) (decide_eq_true hq1) ?_
    refine T.seq ?_
    refine xR [hR 1 rfl rfl (r_conv (u := .int .i64 n) (v := .int .u64 ((u64 n : Nat) : Int)) (c_int Try.underlying2 Try.underlying64 (by rw [IntKind.wrap_u64]; unfold u64; omega)) (lt_of rfl) trivial),
      hR 2 rfl rfl (r_un (u := .int .u64 ((u64 n : Nat) : Int)) (v := .int .u64 ((n.natAbs : Nat) : Int)) (u_neg (by rw [IntKind.wrap_u64]; unfold u64; omega)) (lt_of rfl) trivial)] (by kernel_rfl) (by kernel_rfl) ?_
    refine nT ?_
    refine T.ret ?_
    refine rT ?_
    exact tE (.inl rfl) [.t 2 (.one (.d (.val (.int .u64 ((n.natAbs : Nat) : Int)))))] ⟨⟨rfl, by kernel_rfl⟩, trivial⟩ [] rfl rfl rfl rfl rfl rfl trivial
  · refine T.condF (by kernel_rfl) (decide_eq_false hq1) ?_
    refine T.skip ?_
    refine nT ?_
    refine T.seq ?_
    refine xR [hR 1 rfl rfl (r_conv (u := .int .i64 n) (v := .int .u64 ((u64 n : Nat) : Int)) (c_int Try.underlying2 Try.underlying64 (by rw [IntKind.wrap_u64]; unfold u64; omega)) (lt_of rfl) trivial)] (by kernel_rfl) (by kernel_rfl) ?_
    refine nT ?_
    refine T.ret ?_
    exact tE (.inl rfl) [.t 2 (.one (.d (.val (.int .u64 ((u64 n : Nat) : Int)))))] ⟨⟨rfl, by kernel_rfl⟩, trivial⟩ [] (by have e1 : (((n.natAbs : Nat) : Int) : Int) = ((u64 n : Nat) : Int) := (by ((unfold u64; omega))); have hE := congrArg (fun (q1 : Int) => (dv (.int .u64 q1) : AV)) e1; exact hE) rfl rfl rfl rfl rfl trivial
end Go.Proofs.Ytlabmehgcfgigaa.Q
namespace Go.Proofs.Ytlabmehgcfgigaa.Q
open Go Go.RowKit
set_option linter.unusedVariables false
set_option linter.unusedSimpArgs false
set_option maxRecDepth 100000
set_option maxHeartbeats 4000000
-- math/bits.Mul64
theorem bits_Mul64 (x : Nat) (y : Nat) (hx : x < 18446744073709551616) (hy : y < 18446744073709551616) : Holds Try.prog 103 ⟨[dv (.int .u64 ((x : Nat) : Int)), dv (.int .u64 ((y : Nat) : Int))], [], .tup [.one (.d (.val (.int .u64 ((x * y / 18446744073709551616 : Nat) : Int)))), .one (.d (.val (.int .u64 ((x * y % 18446744073709551616 : Nat) : Int))))], []⟩ := by
  refine Holds.of Try.func103 rfl (N := 51) Try.ntmps103 rfl fun w0 B0 S0 U0 => ?_
  show T _ (mkBase 51 0 w0 S0 U0 B0) ⟨[dv (.int .u64 ((x : Nat) : Int)), dv (.int .u64 ((y : Nat) : Int))], []⟩ _ _
  have b0 : (x % 4294967296) * (y % 4294967296) ≤ 18446744065119617025 := Nat.le_trans (mul_bd (m := 4294967295) (n := 4294967295) (by omega) (by omega)) (by decide)
  have b1 : (x % 4294967296) * (y / 2 ^ 32) ≤ 18446744065119617025 := Nat.le_trans (mul_bd (m := 4294967295) (n := 4294967295) (by omega) (by omega)) (by decide)
  have b2 : (x / 2 ^ 32) * (y % 4294967296) ≤ 18446744065119617025 := Nat.le_trans (mul_bd (m := 4294967295) (n := 4294967295) (by omega) (by omega)) (by decide)
  have b3 : (x / 2 ^ 32) * (y / 2 ^ 32) ≤ 18446744065119617025 := Nat.le_trans (mul_bd (m := 4294967295) (n := 4294967295) (by omega) (by omega)) (by decide)
  have hms := mul_split x y
  refine T.seq ?_
  refine xR [] (by kernel_rfl) (by kernel_rfl) ?_
  refine nT ?_
  refine T.seq ?_
  refine xR [hR 1 rfl rfl (r_bin (u1 := .int .u64 ((x : Nat) : Int)) (u2 := .int .u64 4294967295) (v := .int .u64 ((x % 4294967296 : Nat) : Int)) (b_low (by assumption)) (lt_of rfl) ⟨rfl, trivial⟩)] (by kernel_rfl) (by kernel_rfl) ?_
  refine nT ?_
  refine T.seq ?_
  refine xR [hR 1 rfl rfl (r_bin (u1 := .int .u64 ((x : Nat) : Int)) (u2 := .int .u64 32) (v := .int .u64 ((x / 2 ^ 32 : Nat) : Int)) (b_shrN (n := 32) rfl (Nat.le_trans (by omega) (by decide : 64 ≤ _))) (lt_of rfl) ⟨rfl, trivial⟩)] (by kernel_rfl) (by kernel_rfl) ?_
  refine nT ?_
  refine T.seq ?_
  refine xR [hR 1 rfl rfl (r_bin (u1 := .int .u64 ((y : Nat) : Int)) (u2 := .int .u64 4294967295) (v := .int .u64 ((y % 4294967296 : Nat) : Int)) (b_low (by assumption)) (lt_of rfl) ⟨rfl, trivial⟩)] (by kernel_rfl) (by kernel_rfl) ?_
  refine nT ?_
  refine T.seq ?_
  refine xR [hR 1 rfl rfl (r_bin (u1 := .int .u64 ((y : Nat) : Int)) (u2 := .int .u64 32) (v := .int .u64 ((y / 2 ^ 32 : Nat) : Int)) (b_shrN (n := 32) rfl (Nat.le_trans (by omega) (by decide : 64 ≤ _))) (lt_of rfl) ⟨rfl, trivial⟩)] (by kernel_rfl) (by kernel_rfl) ?_
  refine nT ?_
  refine T.seq ?_
  refine xR [hR 2 rfl rfl (r_bin (u1 := .int .u64 ((x % 4294967296 : Nat) : Int)) (u2 := .int .u64 ((y % 4294967296 : Nat) : Int)) (v := .int .u64 (((x % 4294967296) * (y % 4294967296) : Nat) : Int)) (b_mul (by (rw [IntKind.wrap_u64]; omega))) (lt_of rfl) trivial)] (by kernel_rfl) (by kernel_rfl) ?_
  refine nT ?_
  refine T.seq ?_
  refine xR [hR 2 rfl rfl (r_bin (u1 := .int .u64 ((x / 2 ^ 32 : Nat) : Int)) (u2 := .int .u64 ((y % 4294967296 : Nat) : Int)) (v := .int .u64 (((x / 2 ^ 32) * (y % 4294967296) : Nat) : Int)) (b_mul (by (rw [IntKind.wrap_u64]; omega))) (lt_of rfl) trivial),
    hR 4 rfl rfl (r_bin (u1 := .int .u64 (((x % 4294967296) * (y % 4294967296) : Nat) : Int)) (u2 := .int .u64 32) (v := .int .u64 ((((x % 4294967296) * (y % 4294967296)) / 2 ^ 32 : Nat) : Int)) (b_shrN (n := 32) rfl (Nat.le_trans (by omega) (by decide : 64 ≤ _))) (lt_of rfl) ⟨rfl, trivial⟩),
    hR 5 rfl rfl (r_bin (u1 := .int .u64 (((x / 2 ^ 32) * (y % 4294967296) : Nat) : Int)) (u2 := .int .u64 ((((x % 4294967296) * (y % 4294967296)) / 2 ^ 32 : Nat) : Int)) (v := .int .u64 ((((x / 2 ^ 32) * (y % 4294967296)) + (((x % 4294967296) * (y % 4294967296)) / 2 ^ 32) : Nat) : Int)) (b_add (by (rw [IntKind.wrap_u64]; omega))) (lt_of rfl) trivial)] (by kernel_rfl) (by kernel_rfl) ?_
  refine nT ?_
  refine T.seq ?_
  refine xR [hR 1 rfl rfl (r_bin (u1 := .int .u64 ((((x / 2 ^ 32) * (y % 4294967296)) + (((x % 4294967296) * (y % 4294967296)) / 2 ^ 32) : Nat) : Int)) (u2 := .int .u64 4294967295) (v := .int .u64 (((((x / 2 ^ 32) * (y % 4294967296)) + (((x % 4294967296) * (y % 4294967296)) / 2 ^ 32)) % 4294967296 : Nat) : Int)) (b_low (by omega)) (lt_of rfl) ⟨rfl, trivial⟩)] (by kernel_rfl) (by kernel_rfl) ?_
  refine Ends.turn (s' := ⟨[dv (.int .u64 ((x : Nat) : Int)), dv (.int .u64 ((y : Nat) : Int)), aa, aa, dv (.int .u64 0), dv (.int .u64 0), dv (.int .u64 ((x % 4294967296 : Nat) : Int)), dv (.int .u64 ((x / 2 ^ 32 : Nat) : Int)), dv (.int .u64 ((y % 4294967296 : Nat) : Int)), dv (.int .u64 ((y / 2 ^ 32 : Nat) : Int)), dv (.int .u64 (((x % 4294967296) * (y % 4294967296) : Nat) : Int)), dv (.int .u64 ((((x / 2 ^ 32) * (y % 4294967296)) + (((x % 4294967296) * (y % 4294967296)) / 2 ^ 32) : Nat) : Int)), dv (.int .u64 (((((x / 2 ^ 32) * (y % 4294967296)) + (((x % 4294967296) * (y % 4294967296)) / 2 ^ 32)) % 4294967296 : Nat) : Int))], []⟩) (fun _ _ hG => Gs.norm (by kernel_rfl) hG) ?_
  refine nT ?_
  refine T.seq ?_
  refine xR [hR 1 rfl rfl (r_bin (u1 := .int .u64 ((((x / 2 ^ 32) * (y % 4294967296)) + (((x % 4294967296) * (y % 4294967296)) / 2 ^ 32) : Nat) : Int)) (u2 := .int .u64 32) (v := .int .u64 (((((x / 2 ^ 32) * (y % 4294967296)) + (((x % 4294967296) * (y % 4294967296)) / 2 ^ 32)) / 2 ^ 32 : Nat) : Int)) (b_shrN (n := 32) rfl (Nat.le_trans (by omega) (by decide : 64 ≤ _))) (lt_of rfl) ⟨rfl, trivial⟩)] (by kernel_rfl) (by kernel_rfl) ?_
  refine nT ?_
  refine T.seq ?_
  refine xR [hR 3 rfl rfl (r_bin (u1 := .int .u64 ((x % 4294967296 : Nat) : Int)) (u2 := .int .u64 ((y / 2 ^ 32 : Nat) : Int)) (v := .int .u64 (((x % 4294967296) * (y / 2 ^ 32) : Nat) : Int)) (b_mul (by (rw [IntKind.wrap_u64]; omega))) (lt_of rfl) trivial),
    hR 4 rfl rfl (r_bin (u1 := .int .u64 (((((x / 2 ^ 32) * (y % 4294967296)) + (((x % 4294967296) * (y % 4294967296)) / 2 ^ 32)) % 4294967296 : Nat) : Int)) (u2 := .int .u64 (((x % 4294967296) * (y / 2 ^ 32) : Nat) : Int)) (v := .int .u64 ((((((x / 2 ^ 32) * (y % 4294967296)) + (((x % 4294967296) * (y % 4294967296)) / 2 ^ 32)) % 4294967296) + ((x % 4294967296) * (y / 2 ^ 32)) : Nat) : Int)) (b_add (by (rw [IntKind.wrap_u64]; omega))) (lt_of rfl) trivial)] (by kernel_rfl) (by kernel_rfl) ?_
  refine nT ?_
  refine T.seq ?_
  refine xR [hR 2 rfl rfl (r_bin (u1 := .int .u64 ((x / 2 ^ 32 : Nat) : Int)) (u2 := .int .u64 ((y / 2 ^ 32 : Nat) : Int)) (v := .int .u64 (((x / 2 ^ 32) * (y / 2 ^ 32) : Nat) : Int)) (b_mul (by (rw [IntKind.wrap_u64]; omega))) (lt_of rfl) trivial),
    hR 4 rfl rfl (r_bin (u1 := .int .u64 (((x / 2 ^ 32) * (y / 2 ^ 32) : Nat) : Int)) (u2 := .int .u64 (((((x / 2 ^ 32) * (y % 4294967296)) + (((x % 4294967296) * (y % 4294967296)) / 2 ^ 32)) / 2 ^ 32 : Nat) : Int)) (v := .int .u64 ((((x / 2 ^ 32) * (y / 2 ^ 32)) + ((((x / 2 ^ 32) * (y % 4294967296)) + (((x % 4294967296) * (y % 4294967296)) / 2 ^ 32)) / 2 ^ 32) : Nat) : Int)) (b_add (by (rw [IntKind.wrap_u64]; omega))) (lt_of rfl) trivial),
    hR 6 rfl rfl (r_bin (u1 := .int .u64 ((((((x / 2 ^ 32) * (y % 4294967296)) + (((x % 4294967296) * (y % 4294967296)) / 2 ^ 32)) % 4294967296) + ((x % 4294967296) * (y / 2 ^ 32)) : Nat) : Int)) (u2 := .int .u64 32) (v := .int .u64 (((((((x / 2 ^ 32) * (y % 4294967296)) + (((x % 4294967296) * (y % 4294967296)) / 2 ^ 32)) % 4294967296) + ((x % 4294967296) * (y / 2 ^ 32))) / 2 ^ 32 : Nat) : Int)) (b_shrN (n := 32) rfl (Nat.le_trans (by omega) (by decide : 64 ≤ _))) (lt_of rfl) ⟨rfl, trivial⟩),
    hR 7 rfl rfl (r_bin (u1 := .int .u64 ((((x / 2 ^ 32) * (y / 2 ^ 32)) + ((((x / 2 ^ 32) * (y % 4294967296)) + (((x % 4294967296) * (y % 4294967296)) / 2 ^ 32)) / 2 ^ 32) : Nat) : Int)) (u2 := .int .u64 (((((((x / 2 ^ 32) * (y % 4294967296)) + (((x % 4294967296) * (y % 4294967296)) / 2 ^ 32)) % 4294967296) + ((x % 4294967296) * (y / 2 ^ 32))) / 2 ^ 32 : Nat) : Int)) (v := .int .u64 (((((x / 2 ^ 32) * (y / 2 ^ 32)) + ((((x / 2 ^ 32) * (y % 4294967296)) + (((x % 4294967296) * (y % 4294967296)) / 2 ^ 32)) / 2 ^ 32)) + ((((((x / 2 ^ 32) * (y % 4294967296)) + (((x % 4294967296) * (y % 4294967296)) / 2 ^ 32)) % 4294967296) + ((x % 4294967296) * (y / 2 ^ 32))) / 2 ^ 32) : Nat) : Int)) (b_add (by (rw [IntKind.wrap_u64]; omega))) (lt_of rfl) trivial)] (by kernel_rfl) (by kernel_rfl) ?_
  refine nT ?_
  refine T.seq ?_
  refine xR [hR 2 rfl rfl (r_bin (u1 := .int .u64 ((x : Nat) : Int)) (u2 := .int .u64 ((y : Nat) : Int)) (v := .int .u64 ((x * y % 18446744073709551616 : Nat) : Int)) (b_mul (by rw [IntKind.wrap_u64]; omega)) (lt_of rfl) trivial)] (by kernel_rfl) (by kernel_rfl) ?_
  refine nT ?_
  refine T.ret ?_
  exact tE (.inl rfl) [.t 4 (.one (.d (.val (.int .u64 (((((x / 2 ^ 32) * (y / 2 ^ 32)) + ((((x / 2 ^ 32) * (y % 4294967296)) + (((x % 4294967296) * (y % 4294967296)) / 2 ^ 32)) / 2 ^ 32)) + ((((((x / 2 ^ 32) * (y % 4294967296)) + (((x % 4294967296) * (y % 4294967296)) / 2 ^ 32)) % 4294967296) + ((x % 4294967296) * (y / 2 ^ 32))) / 2 ^ 32) : Nat) : Int))))), .t 5 (.one (.d (.val (.int .u64 ((x * y % 18446744073709551616 : Nat) : Int)))))] ⟨⟨rfl, by kernel_rfl⟩, ⟨⟨rfl, by kernel_rfl⟩, trivial⟩⟩ [] (by have e1 : (((x * y / 18446744073709551616 : Nat) : Int) : Int) = (((((x / 2 ^ 32) * (y / 2 ^ 32)) + ((((x / 2 ^ 32) * (y % 4294967296)) + (((x % 4294967296) * (y % 4294967296)) / 2 ^ 32)) / 2 ^ 32)) + ((((((x / 2 ^ 32) * (y % 4294967296)) + (((x % 4294967296) * (y % 4294967296)) / 2 ^ 32)) % 4294967296) + ((x % 4294967296) * (y / 2 ^ 32))) / 2 ^ 32) : Nat) : Int) := (by (simp only [Int.natCast_inj]; omega)); have hE := congrArg (fun (q1 : Int) => (.tup [.one (.d (.val (.int .u64 q1))), .one (.d (.val (.int .u64 ((x * y % 18446744073709551616 : Nat) : Int))))] : AV)) e1; exact hE) rfl rfl rfl rfl rfl trivial
end Go.Proofs.Ytlabmehgcfgigaa.Q
namespace Go.Proofs.Ytlabmehgcfgigaa.Q
open Go Go.RowKit
set_option linter.unusedVariables false
set_option linter.unusedSimpArgs false
set_option maxRecDepth 100000
set_option maxHeartbeats 4000000
-- quaestor/value.product
theorem value_product (a : Int) (b : Int) (ha : inR a) (hb : inR b) : Holds Try.prog 86 ⟨[dv (.int .i64 a), dv (.int .i64 b)], [], .tup [.one (.d (.val (.int .i64 (prodN a b)))), .one (.d (.val (.bool (decide (inR (a * b))))))], []⟩ := by
  refine Holds.of Try.func86 rfl (N := 38) Try.ntmps86 rfl fun w0 B0 S0 U0 => ?_
  show T _ (mkBase 38 0 w0 S0 U0 B0) ⟨[dv (.int .i64 a), dv (.int .i64 b)], []⟩ _ _
  have ha1 := ha.1
  have ha2 := ha.2
  have hb1 := hb.1
  have hb2 := hb.2
  refine T.seq ?_
  refine xR [] (by kernel_rfl) (by kernel_rfl) ?_
  refine nT ?_
  refine T.seq ?_
  refine xR [hR 1 rfl rfl (r_call (value_size a (by assumption)) Try.func104 rfl (by decide) [] [] (l := [(.tmp 9, dv (.int .i64 a))]) [] rfl 0 0 rfl rfl rfl rfl rfl rfl rfl rfl rfl ⟨.inl ⟨rfl, rfl⟩, trivial⟩ rfl (fun b hb => by cases hb) (.inl rfl) (lt_of rfl) trivial),
    hR 3 rfl rfl (r_call (value_size b (by assumption)) Try.func104 rfl (by decide) [] [] (l := [(.tmp 11, dv (.int .i64 b))]) [] rfl 0 0 rfl rfl rfl rfl rfl rfl rfl rfl rfl ⟨.inl ⟨rfl, rfl⟩, trivial⟩ rfl (fun b hb => by cases hb) (.inl rfl) (lt_of rfl) trivial),
    hR 4 rfl rfl (r_call (bits_Mul64 a.natAbs b.natAbs (by omega) (by omega)) Try.func103 rfl (by decide) [] [] (l := [(.tmp 10, dv (.int .u64 ((a.natAbs : Nat) : Int))), (.tmp 12, dv (.int .u64 ((b.natAbs : Nat) : Int)))]) [] rfl 0 0 rfl rfl rfl rfl rfl rfl rfl rfl rfl ⟨.inl ⟨rfl, rfl⟩, ⟨.inl ⟨rfl, rfl⟩, trivial⟩⟩ rfl (fun b hb => by cases hb) (.inl rfl) (lt_of rfl) trivial)] (by kernel_rfl) (by kernel_rfl) ?_
  refine nT ?_
  refine T.seq ?_
  refine T.seq ?_
  refine xR [] (by kernel_rfl) (by kernel_rfl) ?_
  refine nT ?_
  by_cases hq1 : (decide (a < 0)) ≠ (decide (b < 0))
  · have hpr := prod_no hq1; have hpn := prodN_no hq1
    refine T.condT (by kernel_rfl) (decide_eq_true hq1) ?_
    refine T.seq ?_
    by_cases hq2 : ((a.natAbs * b.natAbs / 18446744073709551616 : Nat) : Int) = 0
    · have hz9 := hq2
      refine xR [hR 1 rfl rfl (r_conv (u := .int .u64 ((a.natAbs * b.natAbs % 18446744073709551616 : Nat) : Int)) (v := .int .i64 (toI64 (a.natAbs * b.natAbs % 18446744073709551616))) (c_i64 (by omega) Try.underlying64 Try.underlying2) (lt_of rfl) trivial),
        hR 2 rfl rfl (r_un (u := .int .i64 (toI64 (a.natAbs * b.natAbs % 18446744073709551616))) (v := .int .i64 (IntKind.i64.wrap (0 - (toI64 (a.natAbs * b.natAbs % 18446744073709551616))))) (u_neg rfl) (lt_of rfl) trivial),
        hY 6 (decide_eq_true hq2),
        hY 7 (decide_eq_true hq2),
        hP 8 (decide_eq_true hq2)] (by kernel_rfl) (by kernel_rfl) ?_
      refine nT ?_
      refine T.ret ?_
      refine rT ?_
      exact tE (.inl rfl) [.t 4 (.one (.d (.val (.int .i64 (IntKind.i64.wrap (0 - (toI64 (a.natAbs * b.natAbs % 18446744073709551616)))))))), .t 5 (.one (.d (.val (.bool (decide (((a.natAbs * b.natAbs % 18446744073709551616 : Nat) : Int) ≤ 9223372036854775808))))))] ⟨⟨rfl, by kernel_rfl⟩, ⟨⟨rfl, by kernel_rfl⟩, trivial⟩⟩ [] (by have e1 : (prodN a b : Int) = IntKind.i64.wrap (0 - (toI64 (a.natAbs * b.natAbs % 18446744073709551616))) := (by (exact hpn)); have e2 : ((decide (inR (a * b))) : Bool) = (decide (((a.natAbs * b.natAbs % 18446744073709551616 : Nat) : Int) ≤ 9223372036854775808)) := (by ((rw [decide_eq_decide]; exact hpr.trans ⟨fun h9 => h9.2, fun h9 => ⟨hz9, h9⟩⟩))); have hE := congr (congrArg (fun (q1 : Int) (q2 : Bool) => (.tup [.one (.d (.val (.int .i64 q1))), .one (.d (.val (.bool q2)))] : AV)) e1) e2; exact hE) rfl rfl rfl rfl rfl trivial
    · have hz9 := hq2
      refine xR [hR 1 rfl rfl (r_conv (u := .int .u64 ((a.natAbs * b.natAbs % 18446744073709551616 : Nat) : Int)) (v := .int .i64 (toI64 (a.natAbs * b.natAbs % 18446744073709551616))) (c_i64 (by omega) Try.underlying64 Try.underlying2) (lt_of rfl) trivial),
        hR 2 rfl rfl (r_un (u := .int .i64 (toI64 (a.natAbs * b.natAbs % 18446744073709551616))) (v := .int .i64 (IntKind.i64.wrap (0 - (toI64 (a.natAbs * b.natAbs % 18446744073709551616))))) (u_neg rfl) (lt_of rfl) trivial),
        hN 6 true (decide_eq_false hq2),
        hN 7 true (decide_eq_false hq2),
        hP 8 (decide_eq_false hq2)] (by kernel_rfl) (by kernel_rfl) ?_
      refine nT ?_
      refine T.ret ?_
      refine rT ?_
      exact tE (.inl rfl) [.t 4 (.one (.d (.val (.int .i64 (IntKind.i64.wrap (0 - (toI64 (a.natAbs * b.natAbs % 18446744073709551616)))))))), .t 5 (.one (.d (.val (.bool false))))] ⟨⟨rfl, by kernel_rfl⟩, ⟨⟨rfl, by kernel_rfl⟩, trivial⟩⟩ [] (by have e1 : (prodN a b : Int) = IntKind.i64.wrap (0 - (toI64 (a.natAbs * b.natAbs % 18446744073709551616))) := (by (exact hpn)); have e2 : ((decide (inR (a * b))) : Bool) = false := (by (exact decide_eq_false (fun h9 => hz9 (hpr.1 h9).1))); have hE := congr (congrArg (fun (q1 : Int) (q2 : Bool) => (.tup [.one (.d (.val (.int .i64 q1))), .one (.d (.val (.bool q2)))] : AV)) e1) e2; exact hE) rfl rfl rfl rfl rfl trivial
  · have hpr := prod_yes hq1; have hpn := prodN_yes hq1
    refine T.condF (by kernel_rfl) (decide_eq_false hq1) ?_
    refine T.skip ?_
    refine nT ?_
    refine T.seq ?_
    by_cases hq3 : ((a.natAbs * b.natAbs / 18446744073709551616 : Nat) : Int) = 0
    · have hz9 := hq3
      refine xR [hR 1 rfl rfl (r_conv (u := .int .u64 ((a.natAbs * b.natAbs % 18446744073709551616 : Nat) : Int)) (v := .int .i64 (toI64 (a.natAbs * b.natAbs % 18446744073709551616))) (c_i64 (by omega) Try.underlying64 Try.underlying2) (lt_of rfl) trivial),
        hY 5 (decide_eq_true hq3),
        hY 6 (decide_eq_true hq3),
        hP 7 (decide_eq_true hq3)] (by kernel_rfl) (by kernel_rfl) ?_
      refine nT ?_
      refine T.ret ?_
      exact tE (.inl rfl) [.t 4 (.one (.d (.val (.int .i64 (toI64 (a.natAbs * b.natAbs % 18446744073709551616)))))), .t 5 (.one (.d (.val (.bool (decide (((a.natAbs * b.natAbs % 18446744073709551616 : Nat) : Int) < 9223372036854775808))))))] ⟨⟨rfl, by kernel_rfl⟩, ⟨⟨rfl, by kernel_rfl⟩, trivial⟩⟩ [] (by have e1 : (prodN a b : Int) = toI64 (a.natAbs * b.natAbs % 18446744073709551616) := (by (exact hpn)); have e2 : ((decide (inR (a * b))) : Bool) = (decide (((a.natAbs * b.natAbs % 18446744073709551616 : Nat) : Int) < 9223372036854775808)) := (by ((rw [decide_eq_decide]; exact hpr.trans ⟨fun h9 => h9.2, fun h9 => ⟨hz9, h9⟩⟩))); have hE := congr (congrArg (fun (q1 : Int) (q2 : Bool) => (.tup [.one (.d (.val (.int .i64 q1))), .one (.d (.val (.bool q2)))] : AV)) e1) e2; exact hE) rfl rfl rfl rfl rfl trivial
    · have hz9 := hq3
      refine xR [hR 1 rfl rfl (r_conv (u := .int .u64 ((a.natAbs * b.natAbs % 18446744073709551616 : Nat) : Int)) (v := .int .i64 (toI64 (a.natAbs * b.natAbs % 18446744073709551616))) (c_i64 (by omega) Try.underlying64 Try.underlying2) (lt_of rfl) trivial),
        hN 5 true (decide_eq_false hq3),
        hN 6 true (decide_eq_false hq3),
        hP 7 (decide_eq_false hq3)] (by kernel_rfl) (by kernel_rfl) ?_
      refine nT ?_
      refine T.ret ?_
      exact tE (.inl rfl) [.t 4 (.one (.d (.val (.int .i64 (toI64 (a.natAbs * b.natAbs % 18446744073709551616)))))), .t 5 (.one (.d (.val (.bool false))))] ⟨⟨rfl, by kernel_rfl⟩, ⟨⟨rfl, by kernel_rfl⟩, trivial⟩⟩ [] (by have e1 : (prodN a b : Int) = toI64 (a.natAbs * b.natAbs % 18446744073709551616) := (by (exact hpn)); have e2 : ((decide (inR (a * b))) : Bool) = false := (by (exact decide_eq_false (fun h9 => hz9 (hpr.1 h9).1))); have hE := congr (congrArg (fun (q1 : Int) (q2 : Bool) => (.tup [.one (.d (.val (.int .i64 q1))), .one (.d (.val (.bool q2)))] : AV)) e1) e2; exact hE) rfl rfl rfl rfl rfl trivial
end Go.Proofs.Ytlabmehgcfgigaa.Q
