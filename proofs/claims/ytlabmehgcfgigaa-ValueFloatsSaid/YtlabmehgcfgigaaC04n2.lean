import Derived.Test.YtlabmehgcfgigaaC04n1
namespace Go.Proofs.Ytlabmehgcfgigaa.Q
open Go Go.RowKit
set_option linter.unusedVariables false
set_option linter.unusedSimpArgs false
set_option maxRecDepth 100000
set_option maxHeartbeats 4000000
abbrev Zh (B : List UInt8) : SV := dU B
theorem ref01_rNum (B : List UInt8) (a : Nat) (e : Int) (ha : a ≤ B.length) (hB : B.length ≤ 140737488350000) : Holds Try.prog 71 ⟨[pv 0 0], [.box 52 [dU B, dI ((a : Nat) : Int), dI e]], dv (.float .f64 (rdN (B.drop a) e)), [.live (.box 52 [dU B, dI ((rfA B a e 8 (floatE ((B.drop a).take 8)) : Nat) : Int), dI (rdE (B.drop a) e 8 (floatE ((B.drop a).take 8)))])]⟩ := by
 refine Holds.of Try.func71 rfl (N := 41) Try.ntmps71 rfl fun w0 B0 S0 U0 => ?_
 show T _ (mkBase 41 1 w0 S0 U0 B0) ⟨[pv 0 0], [.live (.box 52 [(Zh B), dI ((a : Nat) : Int), dI e])]⟩ _ _
 have hn8 := rfN_lt B a (m := 8) (by decide)
 refine sR [] ?_
 refine T.seq ?_
 refine sR [] ?_
 by_cases hq1 : e ≠ 0
 ·have hr := rf_e (B := B) (a := a) hq1 8 (floatE ((B.drop a).take 8))
  refine cT (dT hq1) ?_
  refine sR [] ?_
  refine T.ret (rT ?_)
  exact eRt 2 (.one (.d (.val (.float .f64 0)))) [0] (by have e1 : ((rdN (B.drop a) e) : Nat) = 0 := (by (simp only [rdN]; (rw [if_neg hr.1]; done))); have hE := congrArg (fun (q1 : Nat) => (dv (.float .f64 q1) : AV)) e1; exact hE) ⟨⟨rfl, (by have e1 : (((a : Nat) : Int) : Int) = ((rfA B a e 8 (floatE ((B.drop a).take 8)) : Nat) : Int) := (by (rw [rfA_no hr.1])); have e2 : (e : Int) = (rdE (B.drop a) e 8 (floatE ((B.drop a).take 8))) := (by exact hr.2.symm); have hE := congr (congrArg (fun (q1 : Int) (q2 : Int) => (.live (.box 52 [(Zh B), dI q1, dI q2]) : HS)) e1) e2; exact Eq.trans (by kernel_rfl) hE)⟩, trivial⟩
 refine cF (dF hq1) ?_
 refine T.skip (nT ?_)
 refine sR [hR 1 rfl rfl (rCa (ref01_number B a e 8 ‹_› ‹_› (by omega)) Try.func95 [0] [(.tmp 12, pv 0 0), (.const (.int .i64 8), vI 8)] 1 1)] ?_
 refine T.seq ?_
 refine sR [] ?_
 by_cases hq2 : a + 8 ≤ B.length
 ·refine cF (cn (dT hq2)) ?_
  refine T.skip (nT ?_)
  refine sR [hR 1 rfl rfl (r_ext1 (u := .int .u64 ((rfN B a 8 : Nat) : Int)) (v := .float .f64 (rfN B a 8)) (e := Extern.MathFloatBits.float64frombits) Try.func85 (by kernel_rfl) (by kernel_rfl) (by kernel_rfl) (by kernel_rfl) (fun w => rfl) (lt_of rfl) trivial)] ?_
  refine T.seq ?_
  by_cases hq3 : (nanB (rfN B a 8)) = true
  ·refine sR [hR 2 rfl rfl (r_bin (u1 := .float .f64 (rfN B a 8)) (u2 := .float .f64 (rfN B a 8)) (v := .bool (nanB (rfN B a 8))) b_nan (lt_of rfl) trivial),
     hY 4 hq3,
     hY 5 hq3,
     hP 6 hq3] ?_
   by_cases hq4 : ((rfN B a 8 : Nat) : Int) ≠ 9221120237041090561
   ·have hr := rf_m (n := 8) (k := 8) (c := 12) (m := (floatE ((B.drop a).take 8))) rfl ‹_› ‹_› (by rw [float_of ‹_›, if_pos ⟨by assumption, hq4⟩]) (by decide)
    refine cT (dT hq4) ?_
    refine sR [] ?_
    refine sR [] ?_
    refine T.ret (rT ?_)
    exact eRt 2 (.one (.d (.val (.float .f64 0)))) [0] (by have e1 : ((rdN (B.drop a) e) : Nat) = 0 := (by (simp only [rdN]; (rw [if_neg hr.1]; done))); have hE := congrArg (fun (q1 : Nat) => (dv (.float .f64 q1) : AV)) e1; exact hE) ⟨⟨rfl, (by have e1 : (((a : Nat) : Int) : Int) = ((rfA B a e 8 (floatE ((B.drop a).take 8)) : Nat) : Int) := (by (rw [rfA_no hr.1])); have e2 : (12 : Int) = (rdE (B.drop a) e 8 (floatE ((B.drop a).take 8))) := (by exact hr.2.symm); have hE := congr (congrArg (fun (q1 : Int) (q2 : Int) => (.live (.box 52 [(Zh B), dI q1, dI q2]) : HS)) e1) e2; exact Eq.trans (by kernel_rfl) hE)⟩, trivial⟩
   have hr := rf_ok (n := 8) (k := 8) (m := (floatE ((B.drop a).take 8))) rfl ‹_› ‹_› (by rw [float_of ‹_›, if_neg (fun h1 => h1.2 (Classical.not_not.1 hq4))])
   refine cF (dF hq4) ?_
   refine T.skip (nT ?_)
   refine sR [hR 4 rfl rfl (r_bin (u1 := .int .i64 ((a : Nat) : Int)) (u2 := .int .i64 8) (v := .int .i64 ((a + 8 : Nat) : Int)) (b_add (by rw [IntKind.wrap_i64]; omega)) (lt_of rfl) ⟨rfl, trivial⟩)] ?_
   refine sR [] ?_
   refine T.ret ?_
   exact eRt 2 (.one (.d (.val (.float .f64 (rfN B a 8))))) [0] (by have e1 : ((rdN (B.drop a) e) : Nat) = rfN B a 8 := (by (simp only [rdN]; (rw [if_pos hr.1, ← rfN_ok ‹_›]; done))); have hE := congrArg (fun (q1 : Nat) => (dv (.float .f64 q1) : AV)) e1; exact hE) ⟨⟨rfl, (by have e1 : (((a + 8 : Nat) : Int) : Int) = ((rfA B a e 8 (floatE ((B.drop a).take 8)) : Nat) : Int) := (by (rw [rfA_ok hr.1]; rfl)); have e2 : (e : Int) = (rdE (B.drop a) e 8 (floatE ((B.drop a).take 8))) := (by (rw [hr.2]; omega)); have hE := congr (congrArg (fun (q1 : Int) (q2 : Int) => (.live (.box 52 [(Zh B), dI q1, dI q2]) : HS)) e1) e2; exact Eq.trans (by kernel_rfl) hE)⟩, trivial⟩
  have hr := rf_ok (n := 8) (k := 8) (m := (floatE ((B.drop a).take 8))) rfl ‹_› ‹_› (by rw [float_of ‹_›, if_neg (fun h1 => hq3 h1.1)])
  replace hq3 := Bool.eq_false_iff.2 hq3
  refine sR [hR 2 rfl rfl (r_bin (u1 := .float .f64 (rfN B a 8)) (u2 := .float .f64 (rfN B a 8)) (v := .bool (nanB (rfN B a 8))) b_nan (lt_of rfl) trivial),
    hN 4 true hq3,
    hN 5 true hq3,
    hP 6 hq3] ?_
  refine cF (b := false) rfl ?_
  refine T.skip (nT ?_)
  refine sR [hR 4 rfl rfl (r_bin (u1 := .int .i64 ((a : Nat) : Int)) (u2 := .int .i64 8) (v := .int .i64 ((a + 8 : Nat) : Int)) (b_add (by rw [IntKind.wrap_i64]; omega)) (lt_of rfl) ⟨rfl, trivial⟩)] ?_
  refine sR [] ?_
  refine T.ret ?_
  exact eRt 2 (.one (.d (.val (.float .f64 (rfN B a 8))))) [0] (by have e1 : ((rdN (B.drop a) e) : Nat) = rfN B a 8 := (by (simp only [rdN]; (rw [if_pos hr.1, ← rfN_ok ‹_›]; done))); have hE := congrArg (fun (q1 : Nat) => (dv (.float .f64 q1) : AV)) e1; exact hE) ⟨⟨rfl, (by have e1 : (((a + 8 : Nat) : Int) : Int) = ((rfA B a e 8 (floatE ((B.drop a).take 8)) : Nat) : Int) := (by (rw [rfA_ok hr.1]; rfl)); have e2 : (e : Int) = (rdE (B.drop a) e 8 (floatE ((B.drop a).take 8))) := (by (rw [hr.2]; omega)); have hE := congr (congrArg (fun (q1 : Int) (q2 : Int) => (.live (.box 52 [(Zh B), dI q1, dI q2]) : HS)) e1) e2; exact Eq.trans (by kernel_rfl) hE)⟩, trivial⟩
 have hr := rf_short (n := 8) (k := 8) rfl ‹_› hq2 ha (floatE ((B.drop a).take 8))
 refine cT (cn (dF hq2)) ?_
 refine sR [] ?_
 refine sR [] ?_
 refine T.ret (rT ?_)
 exact eRt 2 (.one (.d (.val (.float .f64 0)))) [0] (by have e1 : ((rdN (B.drop a) e) : Nat) = 0 := (by (simp only [rdN]; (rw [if_neg hr.1]; done))); have hE := congrArg (fun (q1 : Nat) => (dv (.float .f64 q1) : AV)) e1; exact hE) ⟨⟨rfl, (by have e1 : (((a : Nat) : Int) : Int) = ((rfA B a e 8 (floatE ((B.drop a).take 8)) : Nat) : Int) := (by (rw [rfA_no hr.1])); have e2 : (10 : Int) = (rdE (B.drop a) e 8 (floatE ((B.drop a).take 8))) := (by exact hr.2.symm); have hE := congr (congrArg (fun (q1 : Int) (q2 : Int) => (.live (.box 52 [(Zh B), dI q1, dI q2]) : HS)) e1) e2; exact Eq.trans (by kernel_rfl) hE)⟩, trivial⟩
section
variable (B : List UInt8) (a : Nat) (e : Int) (most : Int)
end
end Go.Proofs.Ytlabmehgcfgigaa.Q
namespace Go.Proofs.Ytlabmehgcfgigaa.Q
set_option linter.unusedVariables false
set_option linter.unusedSimpArgs false
end Go.Proofs.Ytlabmehgcfgigaa.Q
namespace Go.Proofs.Ytlabmehgcfgigaa.Q
set_option linter.unusedVariables false
set_option linter.unusedSimpArgs false
set_option maxRecDepth 100000
abbrev Val := api_Value
def eqS_api_Value (a b : api_Value) : Bool := [decide (a.f_Kind = b.f_Kind), decide (a.f_Int = b.f_Int), decide (a.f_Bool = b.f_Bool), decide (a.f_Text = b.f_Text), feqF a.f_Num b.f_Num].all id
def sameV (a b : Val) : Prop := a.f_Kind = b.f_Kind ∧ a.f_Int = b.f_Int ∧ a.f_Bool = b.f_Bool ∧ a.f_Text = b.f_Text ∧ bitsF a.f_Num = bitsF b.f_Num
instance (a b : Val) : Decidable (sameV a b) := inferInstanceAs (Decidable (_ ∧ _ ∧ _ ∧ _ ∧ _))
theorem feq_zero : feqF 0 0 = true := by decide +kernel
theorem eqS_iff {a b : Val} : eqS_api_Value a b = true ↔ a.f_Kind = b.f_Kind ∧ a.f_Int = b.f_Int ∧ a.f_Bool = b.f_Bool ∧ a.f_Text = b.f_Text ∧ feqF a.f_Num b.f_Num = true := by
  simp [eqS_api_Value]
theorem same_t {a b : Val} (h : eqS_api_Value ⟨a.f_Kind, a.f_Int, a.f_Bool, a.f_Text, 0⟩ ⟨b.f_Kind, b.f_Int, b.f_Bool, b.f_Text, 0⟩ = true) : (((bitsF a.f_Num : Nat) : Int) = ((bitsF b.f_Num : Nat) : Int)) ↔ sameV a b := by
  obtain ⟨h1, h2, h3, h4, _⟩ := eqS_iff.1 h
  exact ⟨fun h5 => ⟨h1, h2, h3, h4, Int.ofNat_inj.1 h5⟩, fun h5 => by rw [h5.2.2.2.2]⟩
theorem same_f {a b : Val} (h : eqS_api_Value ⟨a.f_Kind, a.f_Int, a.f_Bool, a.f_Text, 0⟩ ⟨b.f_Kind, b.f_Int, b.f_Bool, b.f_Text, 0⟩ = false) : ¬ sameV a b := fun h5 => by
  have := (eqS_iff (a := ⟨a.f_Kind, a.f_Int, a.f_Bool, a.f_Text, 0⟩) (b := ⟨b.f_Kind, b.f_Int, b.f_Bool, b.f_Text, 0⟩)).2 ⟨h5.1, h5.2.1, h5.2.2.1, h5.2.2.2.1, feq_zero⟩
  rw [this] at h
  cases h
def partV (v : Val) : Val := ⟨v.f_Kind, if v.f_Kind = 1 then v.f_Int else 0, if v.f_Kind = 2 then v.f_Bool else false, if v.f_Kind = 3 then v.f_Text else [], if v.f_Kind = 4 then v.f_Num else 0⟩
def goodV (v : Val) : Prop := (1 ≤ v.f_Kind ∧ v.f_Kind ≤ 4) ∧ sameV v (partV v) ∧ ((v.f_Text.length : Nat) : Int) ≤ 32
instance (v : Val) : Decidable (goodV v) := inferInstanceAs (Decidable (_ ∧ _ ∧ _))
theorem bits_zero : bitsF 0 = 0 := by decide +kernel
theorem good_iff {v : Val} : goodV v ↔ (1 ≤ v.f_Kind ∧ v.f_Kind ≤ 4) ∧ ((v.f_Text.length : Nat) : Int) ≤ 32 ∧ (v.f_Kind = 1 ∨ v.f_Int = 0) ∧ (v.f_Kind = 2 ∨ v.f_Bool = false) ∧ (v.f_Kind = 3 ∨ v.f_Text = []) ∧ (v.f_Kind = 4 ∨ ((bitsF v.f_Num : Nat) : Int) = 0) := by
  unfold goodV sameV partV
  simp only []
  have e : ∀ {p : Prop} [Decidable p] {α : Type} {x y : α}, x = (if p then x else y) ↔ p ∨ x = y := fun {p} _ {α} {x y} => by
    by_cases h : p <;> simp [h]
  have e5 : bitsF v.f_Num = bitsF (if v.f_Kind = 4 then v.f_Num else 0) ↔ v.f_Kind = 4 ∨ ((bitsF v.f_Num : Nat) : Int) = 0 := by
    by_cases h : v.f_Kind = 4
    · simp [h]
    · simp only [h, if_false, false_or, bits_zero]; omega
  rw [e, e, e, e5]
  constructor
  · rintro ⟨h1, ⟨_, h2, h3, h4, h5⟩, h6⟩; exact ⟨h1, h6, h2, h3, h4, h5⟩
  · rintro ⟨h1, h6, h2, h3, h4, h5⟩; exact ⟨h1, ⟨by first | rfl | trivial, h2, h3, h4, h5⟩, h6⟩
def bothV (a b : Val) : Prop := goodV a ∧ goodV b ∧ a.f_Kind = b.f_Kind
instance (a b : Val) : Decidable (bothV a b) := inferInstanceAs (Decidable (_ ∧ _ ∧ _))
def eqV (a b : Val) : Bool := if bothV a b then eqS_api_Value a b else false
def eqE (a b : Val) : Int := if bothV a b then 0 else 40
def lessV (a b : Val) : Bool := if bothV a b then (if a.f_Kind = 1 then decide (a.f_Int < b.f_Int) else if a.f_Kind = 3 then ltS a.f_Text b.f_Text else if a.f_Kind = 4 then fltF a.f_Num b.f_Num else false) else false
def lessE (a b : Val) : Int := if bothV a b then (if a.f_Kind = 2 then 40 else 0) else 40
def cmpI (a b : Int) : Int := if a < b then -1 else if a > b then 1 else 0
def sortF (x : Nat) : Int := if nanB x = true then -9223372036854775808 else if toI64 x < 0 then -9223372036854775808 - toI64 x - 1 else toI64 x
def rankF (x : Nat) : Nat := if nanB x = true then 0 else if x / 2 ^ 63 = 1 then 18446744073709551615 - x else x ||| 9223372036854775808
theorem or_top {x : Nat} (h : x < 9223372036854775808) : x ||| 9223372036854775808 = x + 9223372036854775808 := by
  have := Nat.two_pow_add_eq_or_of_lt (i := 63) (b := x) (by simpa using h) 1
  rw [Nat.or_comm]
  simp at this
  omega
def orderV (a b : Val) : Int := if a.f_Kind ≠ b.f_Kind then cmpI a.f_Kind b.f_Kind else if a.f_Kind = 1 then cmpI a.f_Int b.f_Int else if a.f_Kind = 3 then cmpS a.f_Text b.f_Text else if a.f_Kind = 4 then cmpI (sortF a.f_Num) (sortF b.f_Num) else if a.f_Kind = 2 then (if a.f_Bool = b.f_Bool then 0 else if a.f_Bool = true then 1 else -1) else 0
theorem cmpI_ne {a b : Int} : cmpI a b ≠ 0 ↔ a ≠ b := by unfold cmpI; split <;> (try split) <;> omega
def numV (x : Nat) : Val := ⟨4, 0, false, [], bitsF x⟩
def intV (n : Int) : Val := ⟨1, n, false, [], 0⟩
theorem num_zero {x : Nat} (h : ((bitsF x : Nat) : Int) = 0) : x = 0 := by
  unfold bitsF at h
  split at h <;> omega
theorem good_int {v : Val} (h : goodV v) (hk : v.f_Kind ≠ 1) : v.f_Int = 0 := by have := good_iff.1 h; simp_all
theorem good_text {v : Val} (h : goodV v) (hk : v.f_Kind ≠ 3) : v.f_Text = [] := by have := good_iff.1 h; simp_all
theorem good_num {v : Val} (h : goodV v) (hk : v.f_Kind ≠ 4) : v.f_Num = 0 := by
  have h1 := (good_iff.1 h).2.2.2.2.2
  rcases h1 with h1 | h1
  · exact absurd h1 hk
  · exact num_zero h1
theorem flt_zero : fltF 0 0 = false := by decide +kernel
theorem eqV_parts {a b : Val} (h : bothV a b) : eqV a b = eqS_api_Value a b := if_pos h
theorem eqS_parts {a b : Val} (hk : a.f_Kind = b.f_Kind) : eqS_api_Value a b = (decide (a.f_Int = b.f_Int) && (decide (a.f_Bool = b.f_Bool) && (decide (a.f_Text = b.f_Text) && feqF a.f_Num b.f_Num))) := by
  simp [eqS_api_Value, hk]
theorem less_parts {a b : Val} (h : bothV a b) (hb : a.f_Kind ≠ 2) : lessV a b = (decide (a.f_Int < b.f_Int) || (ltS a.f_Text b.f_Text || fltF a.f_Num b.f_Num)) := by
  obtain ⟨ga, gb, hk⟩ := h
  have e : lessV a b = (if a.f_Kind = 1 then decide (a.f_Int < b.f_Int) else if a.f_Kind = 3 then ltS a.f_Text b.f_Text else if a.f_Kind = 4 then fltF a.f_Num b.f_Num else false) := if_pos ⟨ga, gb, hk⟩
  have hr := (good_iff.1 ga).1
  rw [e]
  have lt0 : ltS [] [] = false := rfl
  by_cases h1 : a.f_Kind = 1
  · rw [if_pos h1, good_text ga (by omega), good_text gb (by omega), good_num ga (by omega), good_num gb (by omega), lt0, flt_zero]; simp
  · rw [if_neg h1, good_int ga h1, good_int gb (by omega)]
    by_cases h3 : a.f_Kind = 3
    · rw [if_pos h3, good_num ga (by omega), good_num gb (by omega), flt_zero]; simp
    · rw [if_neg h3, good_text ga h3, good_text gb (by omega), if_pos (by omega), lt0]; simp
theorem order_bool {a b : Val} (hk : a.f_Kind = b.f_Kind) (h2 : a.f_Kind = 2) : orderV a b = if a.f_Bool = b.f_Bool then 0 else if a.f_Bool = true then 1 else -1 := by
  unfold orderV
  rw [if_neg (by simp [hk]), if_neg (by omega), if_neg (by omega), if_neg (by omega), if_pos h2]
theorem order_none {a b : Val} (hk : a.f_Kind = b.f_Kind) (h1 : ¬ a.f_Kind = 1) (h3 : ¬ a.f_Kind = 3) (h4 : ¬ a.f_Kind = 4) (h2 : ¬ a.f_Kind = 2) : orderV a b = 0 := by
  unfold orderV
  rw [if_neg (by simp [hk]), if_neg h1, if_neg h3, if_neg h4, if_neg h2]
theorem nan_9 : nanB 9221120237041090561 = true := by decide +kernel
end Go.Proofs.Ytlabmehgcfgigaa.Q
namespace Go.Proofs.Ytlabmehgcfgigaa.Q
open Go Go.RowKit
set_option linter.unusedVariables false
set_option linter.unusedSimpArgs false
set_option maxRecDepth 100000
set_option maxHeartbeats 4000000
theorem value_code (x : Nat) : Holds Try.prog 47 ⟨[dv (.float .f64 x)], [], dv (.int .u64 ((bitsF x : Nat) : Int)), []⟩ := by
 refine Holds.of Try.func47 rfl (N := 7) Try.ntmps47 rfl fun w0 B0 S0 U0 => ?_
 show T _ (mkBase 7 0 w0 S0 U0 B0) ⟨[dv (.float .f64 x)], []⟩ _ _
 refine sR [] ?_
 refine T.seq ?_
 refine sR [hR 1 rfl rfl (rCa (math_IsNaN x ) Try.func83 [] [(.tmp 3, dv (.float .f64 x))] 0 0)] ?_
 by_cases hq1 : (nanB x) = true
 ·refine cT hq1 ?_
  refine sR [] ?_
  refine T.ret (rT ?_)
  exact eRt 2 (.one (.d (.val (.int .u64 9221120237041090561)))) [] (by have e1 : (((bitsF x : Nat) : Int) : Int) = 9221120237041090561 := (by (simp [bitsF, *]; done)); have hE := congrArg (fun (q1 : Int) => (dv (.int .u64 q1) : AV)) e1; exact hE) trivial
 replace hq1 := Bool.eq_false_iff.2 hq1
 refine cF hq1 ?_
 refine T.skip (nT ?_)
 refine sR [hR 1 rfl rfl (r_ext1 (u := .float .f64 x) (v := .int .u64 ((x : Nat) : Int)) (e := Extern.MathFloatBits.float64bits) Try.func84 (by kernel_rfl) (by kernel_rfl) (by kernel_rfl) (by kernel_rfl) (fun w => rfl) (lt_of rfl) trivial)] ?_
 refine T.ret ?_
 exact eRt 2 (.one (.d (.val (.int .u64 ((x : Nat) : Int))))) [] (by have e1 : (((bitsF x : Nat) : Int) : Int) = ((x : Nat) : Int) := (by (simp [bitsF, *]; done)); have hE := congrArg (fun (q1 : Int) => (dv (.int .u64 q1) : AV)) e1; exact hE) trivial
theorem iat_24 : Try.prog.info? 24 = some Try.t24 := by kernel_rfl
theorem wide_24 : Wide Try.prog 24 (some 5) := ⟨_, _, Try.underlying24, .inl ⟨_, rfl⟩, iat_24, rfl⟩
theorem seqF_24 : SEqF Try.prog 24 (fun x : api_Value => .agg #[.int .i64 x.f_Kind, .int .i64 x.f_Int, .bool x.f_Bool, strV x.f_Text, .float .f64 x.f_Num]) eqS_api_Value := seqF_of (g := fun x : api_Value => #[.int .i64 x.f_Kind, .int .i64 x.f_Int, .bool x.f_Bool, strV x.f_Text, .float .f64 x.f_Num]) (bs' := fun a b => [decide (a.f_Kind = b.f_Kind), decide (a.f_Int = b.f_Int), decide (a.f_Bool = b.f_Bool), decide (a.f_Text = b.f_Text), feqF a.f_Num b.f_Num]) Try.underlying24 (by kernel_rfl) (by kernel_rfl) (fun a b => ⟨by decide, ⟨_, _, rfl, rfl, .int Try.underlying3⟩, ⟨by decide, ⟨_, _, rfl, rfl, .int Try.underlying2⟩, ⟨by decide, ⟨_, _, rfl, rfl, .bool Try.underlying4⟩, ⟨by decide, ⟨_, _, rfl, rfl, .str Try.underlying9⟩, ⟨by decide, ⟨_, _, rfl, rfl, .flt Try.underlying22⟩, trivial⟩⟩⟩⟩⟩) (fun a b => rfl)
abbrev Zp (a : api_Value) : AV := .tv (.agg [dI a.f_Kind, dI a.f_Int, dB a.f_Bool, dS a.f_Text, .d (.val (.float .f64 0))])
abbrev Zq (b : api_Value) : AV := .tv (.agg [dI b.f_Kind, dI b.f_Int, dB b.f_Bool, dS b.f_Text, .d (.val (.float .f64 0))])
theorem value_Same (a : api_Value) (b : api_Value) : Holds Try.prog 15 ⟨[.tv (.agg [dI a.f_Kind, dI a.f_Int, dB a.f_Bool, dS a.f_Text, .d (.val (.float .f64 a.f_Num))]), .tv (.agg [dI b.f_Kind, dI b.f_Int, dB b.f_Bool, dS b.f_Text, .d (.val (.float .f64 b.f_Num))])], [], vB (decide (sameV a b)), []⟩ := by
 refine Holds.of Try.func15 rfl (N := 23) Try.ntmps15 rfl fun w0 B0 S0 U0 => ?_
 show T _ (mkBase 23 0 w0 S0 U0 B0) ⟨[.tv (.agg [dI a.f_Kind, dI a.f_Int, dB a.f_Bool, dS a.f_Text, .d (.val (.float .f64 a.f_Num))]), .tv (.agg [dI b.f_Kind, dI b.f_Int, dB b.f_Bool, dS b.f_Text, .d (.val (.float .f64 b.f_Num))])], []⟩ _ _
 refine sR [] ?_
 refine sD [[], [0], [0, 1], [], [3], [0, 1, 2, 3, 4], [0, 1, 2, 3, 4, 5], [0, 1, 2, 3, 4, 5, 6]] [hR 2 rfl rfl (rCa (value_code a.f_Num ) Try.func47 [] [(.tmp 8, dv (.float .f64 a.f_Num))] 0 0),
   hR 5 rfl rfl (rCa (value_code b.f_Num ) Try.func47 [] [(.tmp 11, dv (.float .f64 b.f_Num))] 0 0)] ?_
 refine sR [] ?_
 by_cases hq1 : (eqS_api_Value (api_Value.mk a.f_Kind a.f_Int a.f_Bool a.f_Text 0) (api_Value.mk b.f_Kind b.f_Int b.f_Bool b.f_Text 0)) = true
 ·refine sR [hR 2 rfl rfl (r_eqStF (ax := (Zp a)) (ay := (Zq b)) (a := (api_Value.mk a.f_Kind a.f_Int a.f_Bool a.f_Text 0)) (b := (api_Value.mk b.f_Kind b.f_Int b.f_Bool b.f_Text 0)) seqF_24 ⟨[.int .i64 a.f_Kind, .int .i64 a.f_Int, .bool a.f_Bool, strV a.f_Text, .float .f64 0], rfl, rfl⟩ ⟨[.int .i64 b.f_Kind, .int .i64 b.f_Int, .bool b.f_Bool, strV b.f_Text, .float .f64 0], rfl, rfl⟩ (lt_of rfl) trivial),
    hY 4 hq1,
    hY 5 hq1,
    hY 6 hq1,
    hP 7 hq1] ?_
  refine T.ret ?_
  exact eRt 4 (.one (dB (decide (((bitsF a.f_Num : Nat) : Int) = ((bitsF b.f_Num : Nat) : Int))))) [] (cB (by exact (decide_eq_decide.2 (same_t hq1)).symm)) trivial
 replace hq1 := Bool.eq_false_iff.2 hq1
 refine sR [hR 2 rfl rfl (r_eqStF (ax := (Zp a)) (ay := (Zq b)) (a := (api_Value.mk a.f_Kind a.f_Int a.f_Bool a.f_Text 0)) (b := (api_Value.mk b.f_Kind b.f_Int b.f_Bool b.f_Text 0)) seqF_24 ⟨[.int .i64 a.f_Kind, .int .i64 a.f_Int, .bool a.f_Bool, strV a.f_Text, .float .f64 0], rfl, rfl⟩ ⟨[.int .i64 b.f_Kind, .int .i64 b.f_Int, .bool b.f_Bool, strV b.f_Text, .float .f64 0], rfl, rfl⟩ (lt_of rfl) trivial),
   hN 4 true hq1,
   hN 5 true hq1,
   hN 6 true hq1,
   hP 7 hq1] ?_
 refine T.ret ?_
 exact eRt 4 (.one (dB false)) [] (cB (by exact dF (same_f hq1))) trivial
end Go.Proofs.Ytlabmehgcfgigaa.Q
