import Derived.Test.YtlabmehgcfgigaaC04n22
namespace Go.Proofs.Ytlabmehgcfgigaa.Q
set_option linter.unusedVariables false
set_option linter.unusedSimpArgs false
set_option maxRecDepth 100000
theorem neg_is {x : Nat} (hx : x < 18446744073709551616) : negB x = true ↔ x / 2 ^ 63 = 1 := by
  unfold negB
  rw [beq_iff_eq]
  omega
theorem rank_is {x : Nat} (hx : x < 18446744073709551616) (hn : ¬ nanB x = true) : rankF x = if negB x = true then 9223372036854775807 - rungF x else 9223372036854775808 + rungF x := by
  have hk := neg_is hx
  unfold rankF
  rw [if_neg hn]
  unfold rungF
  by_cases h : x / 2 ^ 63 = 1
  · rw [if_pos h, if_pos (hk.2 h)]; omega
  · rw [if_neg h, if_neg (fun q => h (hk.1 q)), or_top (by omega)]; omega
theorem rung_lt {x : Nat} (hn : okF x) : rungF x < 9223372036854775807 := by unfold okF at hn; omega
theorem order_rank {x y : Nat} (hx : x < 18446744073709551616) (hy : y < 18446744073709551616) (nx : ¬ nanB x = true) (ny : ¬ nanB y = true) :
    (Ieee.double.order x y = some .lt → rankF x < rankF y) ∧ (Ieee.double.order x y = some .gt → rankF y < rankF x) ∧ (Ieee.double.order x y = some .eq → rungF x = rungF y ∧ (rungF x = 0 ∨ negB x = negB y)) := by
  have ox : okF x := Classical.not_not.1 fun q => nx ((nan_of x).2 q)
  have oy : okF y := Classical.not_not.1 fun q => ny ((nan_of y).2 q)
  have hc : ∀ a b : Int, ((if a < b then Ordering.lt else if a = b then .eq else .gt) = .lt → a < b) ∧ ((if a < b then Ordering.lt else if a = b then .eq else .gt) = .gt → b < a) ∧ ((if a < b then Ordering.lt else if a = b then .eq else .gt) = .eq → a = b) := fun a b => by
    by_cases h1 : a < b
    · rw [if_pos h1]; exact ⟨fun _ => h1, (fun h => by cases h), fun h => by cases h⟩
    · by_cases h2 : a = b
      · rw [if_neg h1, if_pos h2]; exact ⟨(fun h => by cases h), (fun h => by cases h), fun _ => h2⟩
      · rw [if_neg h1, if_neg h2]; exact ⟨(fun h => by cases h), (fun _ => by omega), fun h => by cases h⟩
  rw [order_ok ox oy, rank_is hx nx, rank_is hy ny, cmp_int]
  have a1 := rung_lt ox
  have a2 := rung_lt oy
  have b1 := @scl_iff (rungF x) (rungF y)
  have b2 := @scl_iff (rungF y) (rungF x)
  have b3 := @scl_iff 0 (rungF x)
  have b4 := @scl_iff 0 (rungF y)
  rw [scl_0] at b3 b4
  obtain ⟨c1, c2, c3⟩ := hc (svalF x) (svalF y)
  have key : (svalF x < svalF y → (if negB x = true then 9223372036854775807 - rungF x else 9223372036854775808 + rungF x) < (if negB y = true then 9223372036854775807 - rungF y else 9223372036854775808 + rungF y)) ∧ (svalF y < svalF x → (if negB y = true then 9223372036854775807 - rungF y else 9223372036854775808 + rungF y) < (if negB x = true then 9223372036854775807 - rungF x else 9223372036854775808 + rungF x)) ∧ (svalF x = svalF y → rungF x = rungF y ∧ (rungF x = 0 ∨ negB x = negB y)) := by
    unfold svalF
    generalize sclF (rungF x) = p at b1 b2 b3 b4 ⊢
    generalize sclF (rungF y) = q at b1 b2 b3 b4 ⊢
    cases negB x <;> cases negB y <;> simp only [if_true, Bool.false_eq_true, if_false, or_true, and_true, or_false, reduceCtorEq] <;> omega
  exact ⟨fun h => key.1 (c1 (Option.some.inj h)), fun h => key.2.1 (c2 (Option.some.inj h)), fun h => key.2.2 (c3 (Option.some.inj h))⟩
theorem same_bits {x y : Nat} (hx : x < 18446744073709551616) (hy : y < 18446744073709551616) (hr : rungF x = rungF y) (hn : negB x = negB y) : x = y := by
  have h1 := neg_is hx
  have h2 := neg_is hy
  rw [hn] at h1
  have h3 : x / 2 ^ 63 = 1 ↔ y / 2 ^ 63 = 1 := h1.symm.trans h2
  unfold rungF at hr
  omega
theorem mm_ref {x y : Nat} (mx : Bool) (hx : x < 18446744073709551616) (hy : y < 18446744073709551616) (nx : ¬ nanB x = true) (ny : ¬ nanB y = true) : mmF mx x y = some (if decide (rankF x < rankF y) = !mx then x else y) := by
  have ox : okF x := Classical.not_not.1 fun q => nx ((nan_of x).2 q)
  have oy : okF y := Classical.not_not.1 fun q => ny ((nan_of y).2 q)
  obtain ⟨h1, h2, h3⟩ := order_rank hx hy nx ny
  unfold mmF
  cases ho : Ieee.double.order x y with
  | none => rw [order_ok ox oy] at ho; cases ho
  | some o =>
    cases o with
    | lt =>
      have := h1 ho
      cases mx <;> simp [this]
    | gt =>
      have := h2 ho
      have h' : ¬ rankF x < rankF y := by omega
      cases mx <;> simp [h']
    | eq =>
      obtain ⟨e1, e2⟩ := h3 ho
      simp only [neg_read ox]
      by_cases hs : negB x = negB y
      · rw [same_bits hx hy e1 hs]; simp
      · have hz : rungF x = 0 := e2.resolve_right hs
        have r1 := rank_is hx nx
        have r2 := rank_is hy ny
        rw [← e1] at r2
        rw [hz] at r1 r2
        rw [r1, r2]
        cases hbx : negB x <;> cases hby : negB y <;> rw [hbx, hby] at hs <;> first | exact absurd rfl hs | skip
        all_goals cases mx <;> simp
theorem mm_nan {x y : Nat} (mx : Bool) (h : nanB x = true ∨ nanB y = true) : mmF mx x y = none := by
  unfold mmF
  rw [order_nan (h.imp (nan_of x).1 (nan_of y).1)]
def opF (op : Int) (x y : Nat) : Option Nat := if op = 4 then arF .add x y else if op = 5 then arF .sub x y else if op = 6 then arF .mul x y else if op = 7 then arF .quo x y else if op = 14 then mmF false x y else mmF true x y
def refF (op : Int) (x y : Nat) : Option Nat := if op = 4 then arF .add x y else if op = 5 then arF .sub x y else if op = 6 then arF .mul x y else if op = 7 then arF .quo x y else some (if nanB x = true ∨ nanB y = true then 9221120237041090561 else if decide (((rankF x : Nat) : Int) < ((rankF y : Nat) : Int)) = decide (op = 14) then x else y)
theorem opF_14 (x y : Nat) : opF 14 x y = mmF false x y := rfl
theorem opF_15 {op : Int} {x y : Nat} (h1 : ¬ op = 4) (h2 : ¬ op = 5) (h3 : ¬ op = 6) (h4 : ¬ op = 7) (h5 : ¬ op = 14) : opF op x y = mmF true x y := by unfold opF; rw [if_neg h1, if_neg h2, if_neg h3, if_neg h4, if_neg h5]
theorem refF_m {op : Int} {x y : Nat} (h1 : ¬ op = 4) (h2 : ¬ op = 5) (h3 : ¬ op = 6) (h4 : ¬ op = 7) : refF op x y = some (if nanB x = true ∨ nanB y = true then 9221120237041090561 else if decide (((rankF x : Nat) : Int) < ((rankF y : Nat) : Int)) = decide (op = 14) then x else y) := by unfold refF; rw [if_neg h1, if_neg h2, if_neg h3, if_neg h4]
theorem bits_9 : bitsF 9221120237041090561 = 9221120237041090561 := if_pos nan_9
def fltV (op : Int) (x y : Nat) : Val := numV ((opF op x y).getD 9221120237041090561)
theorem flt_none {op : Int} {x y : Nat} (h : opF op x y = none) : fltV op x y = numV 9221120237041090561 := by unfold fltV; rw [h]; rfl
theorem flt_some {op : Int} {x y : Nat} (h : ¬ opF op x y = none) : fltV op x y = numV ((opF op x y).getD 0) := by unfold fltV; rw [some_of h]; rfl
theorem ref_op {op : Int} {x y : Nat} (hx : x < 18446744073709551616) (hy : y < 18446744073709551616) : refF op x y = opF op x y ∨ (opF op x y = none ∧ refF op x y = some 9221120237041090561) := by
  by_cases h1 : op = 4
  · subst h1; exact .inl rfl
  by_cases h2 : op = 5
  · subst h2; exact .inl rfl
  by_cases h3 : op = 6
  · subst h3; exact .inl rfl
  by_cases h4 : op = 7
  · subst h4; exact .inl rfl
  have e := refF_m (x := x) (y := y) h1 h2 h3 h4
  by_cases hn : nanB x = true ∨ nanB y = true
  · rw [if_pos hn] at e
    refine .inr ⟨?_, e⟩
    by_cases h5 : op = 14
    · subst h5; rw [opF_14]; exact mm_nan _ hn
    · rw [opF_15 h1 h2 h3 h4 h5]; exact mm_nan _ hn
  · rw [if_neg hn] at e
    refine .inl (e.trans ?_)
    have n1 : ¬ nanB x = true := fun q => hn (.inl q)
    have n2 : ¬ nanB y = true := fun q => hn (.inr q)
    have hd : decide (((rankF x : Nat) : Int) < ((rankF y : Nat) : Int)) = decide (rankF x < rankF y) := by rw [decide_eq_decide]; exact Int.ofNat_lt
    rw [hd]
    by_cases h5 : op = 14
    · subst h5; rw [opF_14, mm_ref false hx hy n1 n2]; rfl
    · rw [opF_15 h1 h2 h3 h4 h5, mm_ref true hx hy n1 n2, decide_eq_false h5]; rfl
theorem ref_none {op : Int} {x y : Nat} (hx : x < 18446744073709551616) (hy : y < 18446744073709551616) (h : refF op x y = none) : fltV op x y = numV 9221120237041090561 := by
  rcases ref_op (op := op) hx hy with e | ⟨_, e⟩
  · exact flt_none (e ▸ h)
  · rw [e] at h; cases h
theorem ref_some {op : Int} {x y : Nat} (hx : x < 18446744073709551616) (hy : y < 18446744073709551616) (h : ¬ refF op x y = none) : fltV op x y = numV ((refF op x y).getD 0) := by
  rcases ref_op (op := op) hx hy with e | ⟨e1, e⟩
  · rw [e] at h ⊢; exact flt_some h
  · rw [e, flt_none e1]; rfl
def rkFV (op : Int) (a b : Val) : Val := if okOp op then fltV op a.f_Num b.f_Num else z_api_Value
def rkFE (op : Int) : Int := if okOp op then 0 else 1
theorem rkF_yes {op : Int} {a b : Val} (h : okOp op) : rkFV op a b = fltV op a.f_Num b.f_Num ∧ rkFE op = 0 := ⟨if_pos h, if_pos h⟩
theorem rkF_no {op : Int} {a b : Val} (h : ¬ okOp op) : rkFV op a b = z_api_Value ∧ rkFE op = 1 := ⟨if_neg h, if_neg h⟩
def tmsN (a b : Int) : Int := if a = 0 ∨ b = 0 then 0 else if a = -1 ∧ b = -9223372036854775808 ∨ b = -1 ∧ a = -9223372036854775808 then 0 else IntKind.i64.wrap (a * b)
theorem inR_0 {a b : Int} (h : a = 0 ∨ b = 0) : inR (a * b) := by
  rcases h with h | h <;> rw [h] <;> simp [inR]
theorem tms_0 {a b : Int} (h : a = 0 ∨ b = 0) : tmsN a b = 0 ∧ decide (inR (a * b)) = true := ⟨if_pos h, decide_eq_true (inR_0 h)⟩
theorem tms_x {a b : Int} (h0 : ¬ a = 0) (h1 : ¬ b = 0) (h : a = -1 ∧ b = -9223372036854775808 ∨ b = -1 ∧ a = -9223372036854775808) : tmsN a b = 0 ∧ decide (inR (a * b)) = false := ⟨by unfold tmsN; rw [if_neg (by omega), if_pos h], decide_eq_false (by rcases h with ⟨rfl, rfl⟩ | ⟨rfl, rfl⟩ <;> decide)⟩
theorem tms_ok {a b : Int} (ha : inR a) (hb : inR b) (h0 : ¬ a = 0) (h1 : ¬ b = 0) (h : ¬ (a = -1 ∧ b = -9223372036854775808 ∨ b = -1 ∧ a = -9223372036854775808)) : tmsN a b = IntKind.i64.wrap (a * b) ∧ (inR (a * b) ↔ IntKind.i64.wrap ((IntKind.i64.wrap (a * b)).tdiv b) = a) := by
  refine ⟨by unfold tmsN; rw [if_neg (by omega), if_neg h], ⟨fun q => ?_, fun q => ?_⟩⟩
  · rw [wrap_of q, Int.mul_tdiv_cancel _ h1, wrap_of ha]
  · have hc : inR (IntKind.i64.wrap (a * b)) := by rw [IntKind.wrap_i64]; unfold inR; omega
    have hw : ∃ k : Int, IntKind.i64.wrap (a * b) = a * b + 18446744073709551616 * k := ⟨-((a * b + 9223372036854775808) / 18446744073709551616), by rw [IntKind.wrap_i64]; omega⟩
    obtain ⟨k, hk⟩ := hw
    generalize hce : IntKind.i64.wrap (a * b) = c at *
    have hd : inR (c.tdiv b) ∨ c.tdiv b = 9223372036854775808 := by
      have := tdiv_bd c b
      unfold inR at *
      omega
    have e := Int.mul_tdiv_add_tmod c b
    have hm : (c.tmod b).natAbs < b.natAbs := by rw [Int.natAbs_tmod]; exact Nat.mod_lt _ (by omega)
    rcases hd with hd | hd
    · rw [wrap_of hd] at q
      rw [q, Int.mul_comm] at e
      unfold inR at *
      generalize a * b = m at *
      omega
    · rw [hd, show IntKind.i64.wrap 9223372036854775808 = -9223372036854775808 from by decide +kernel] at q
      rw [hd] at e
      exfalso
      unfold inR at *
      omega
theorem tms_is {a b : Int} (ha : inR a) (hb : inR b) (h : inR (a * b)) : tmsN a b = a * b := by
  by_cases h0 : a = 0 ∨ b = 0
  · rw [(tms_0 h0).1]
    rcases h0 with h0 | h0 <;> rw [h0] <;> simp
  · by_cases hx : a = -1 ∧ b = -9223372036854775808 ∨ b = -1 ∧ a = -9223372036854775808
    · have := (tms_x (by omega) (by omega) hx).2
      rw [decide_eq_true h] at this; cases this
    · rw [(tms_ok ha hb (by omega) (by omega) hx).1, wrap_of h]
theorem both_0 {a : Val} : bothV (intV 0) a ↔ goodV a ∧ a.f_Kind = 1 := ⟨fun h => ⟨h.2.1, h.2.2.symm⟩, fun h => ⟨good_intV 0, h.1, h.2.symm⟩⟩
def ngV (a : Val) : Val := if goodV a ∧ a.f_Kind = 4 then numV (negF a.f_Num) else reckV 5 (intV 0) a
def ngE (a : Val) : Int := if goodV a ∧ a.f_Kind = 4 then 0 else reckE 5 (intV 0) a
theorem ng_num {a : Val} (h : goodV a) (hk : a.f_Kind = 4) : ngV a = numV (negF a.f_Num) ∧ ngE a = 0 := ⟨if_pos ⟨h, hk⟩, if_pos ⟨h, hk⟩⟩
theorem ng_else {a : Val} (h : ¬ (goodV a ∧ a.f_Kind = 4)) : ngV a = reckV 5 (intV 0) a ∧ ngE a = reckE 5 (intV 0) a := ⟨if_neg h, if_neg h⟩
theorem ok_5 : okOp 5 := by unfold okOp; omega
theorem ng_type {a : Val} (h : ¬ (goodV a ∧ a.f_Kind = 4)) (h' : ¬ (goodV a ∧ a.f_Kind = 1)) : ngV a = z_api_Value ∧ ngE a = 40 := by
  have e := reck_type (a := intV 0) (b := a) ok_5 fun q => h' (both_0.1 q.1)
  exact ⟨(ng_else h).1.trans e.1, (ng_else h).2.trans e.2⟩
theorem ng_over {a : Val} (h : goodV a) (hk : a.f_Kind = 1) (hl : a.f_Int = -9223372036854775808) : ngV a = z_api_Value ∧ ngE a = 41 := by
  have hn : ¬ (goodV a ∧ a.f_Kind = 4) := fun q => by have := q.2; omega
  have e1 : intsE 5 (intV 0).f_Int a.f_Int = 41 := by rw [hl]; rfl
  have e := reck_err (a := intV 0) (b := a) ok_5 (both_0.2 ⟨h, hk⟩) rfl (by rw [e1]; decide)
  exact ⟨(ng_else hn).1.trans e.1, (ng_else hn).2.trans (e.2.trans e1)⟩
theorem ng_int {a : Val} (h : goodV a) (hk : a.f_Kind = 1) (hr : inR a.f_Int) (hl : ¬ a.f_Int = -9223372036854775808) : ngV a = intV (-a.f_Int) ∧ ngE a = 0 := by
  have hn : ¬ (goodV a ∧ a.f_Kind = 4) := fun q => by have := q.2; omega
  have hi : inR (0 - a.f_Int) := by unfold inR at *; omega
  have e1 : intsE 5 (intV 0).f_Int a.f_Int = 0 := (res_yes hi).2
  have e2 : intsN 5 (intV 0).f_Int a.f_Int = -a.f_Int := ((res_yes hi).1).trans (by omega)
  have e := reck_ok (a := intV 0) (b := a) ok_5 (both_0.2 ⟨h, hk⟩) rfl (by rw [e1]; simp)
  exact ⟨(ng_else hn).1.trans (e.1.trans (by rw [e2])), (ng_else hn).2.trans e.2⟩
def flV (a : Val) : Val := if goodV a ∧ a.f_Kind = 1 then numV (itF a.f_Int) else z_api_Value
def flE (a : Val) : Int := if goodV a ∧ a.f_Kind = 1 then 0 else 40
theorem fl_yes {a : Val} (h : goodV a) (hk : a.f_Kind = 1) : flV a = numV (itF a.f_Int) ∧ flE a = 0 := ⟨if_pos ⟨h, hk⟩, if_pos ⟨h, hk⟩⟩
theorem fl_no {a : Val} (h : ¬ (goodV a ∧ a.f_Kind = 1)) : flV a = z_api_Value ∧ flE a = 40 := ⟨if_neg h, if_neg h⟩
theorem good_numV (x : Nat) : goodV (numV x) := good_iff.2 ⟨⟨(by show (1 : Int) ≤ 4; decide), (by show (4 : Int) ≤ 4; decide)⟩, (by show (((([] : List UInt8)).length : Nat) : Int) ≤ 32; decide), .inr rfl, .inr rfl, .inr rfl, .inl rfl⟩
theorem both_numV (x y : Nat) : bothV (numV x) (numV y) ∧ (numV x).f_Kind = 4 := ⟨⟨good_numV x, good_numV y, rfl⟩, rfl⟩
theorem bits_ok {x : Nat} (h : ¬ nanB x = true) : bitsF x = x := if_neg h
theorem bits_nan {x : Nat} (h : nanB x = true) : ¬ okF (bitsF x) := by rw [show bitsF x = 9221120237041090561 from if_pos h]; unfold okF rungF; omega
theorem feq_is {x y : Nat} (hx : okF x) (hy : okF y) : feqF x y = decide (svalF x = svalF y) ∧ fltF x y = decide (svalF x < svalF y) := by
  unfold feqF fltF
  have e : FloatKind.f64.format.order x y = some (compare (svalF x) (svalF y)) := order_ok hx hy
  rw [e, cmp_int]
  by_cases h : svalF x < svalF y
  · rw [if_pos h, decide_eq_true h, decide_eq_false (by omega)]; exact ⟨rfl, rfl⟩
  · by_cases h2 : svalF x = svalF y
    · rw [if_neg h, if_pos h2, decide_eq_true h2, decide_eq_false h]; exact ⟨rfl, rfl⟩
    · rw [if_neg h, if_neg h2, decide_eq_false h2, decide_eq_false h]; exact ⟨rfl, rfl⟩
theorem feq_nan {x y : Nat} (h : ¬ okF x ∨ ¬ okF y) : feqF x y = false ∧ fltF x y = false := by
  unfold feqF fltF
  have e : FloatKind.f64.format.order x y = none := order_nan h
  rw [e]; exact ⟨rfl, rfl⟩
theorem vf_eq (x y : Nat) : eqV (numV x) (numV y) = feqF (bitsF x) (bitsF y) ∧ eqE (numV x) (numV y) = 0 := by
  have h := (both_numV x y).1
  refine ⟨?_, if_pos h⟩
  rw [eqV_parts h, eqS_parts h.2.2]
  simp [numV]
theorem vf_less (x y : Nat) : lessV (numV x) (numV y) = fltF (bitsF x) (bitsF y) ∧ lessE (numV x) (numV y) = 0 := by
  have h := (both_numV x y).1
  have h2 : (numV x).f_Kind ≠ 2 := by show (4 : Int) ≠ 2; decide
  refine ⟨?_, ?_⟩
  · rw [less_parts h h2]
    have lt0 : ltS [] [] = false := rfl
    simp [numV, lt0]
  · unfold lessE
    rw [if_pos h, if_neg h2]
theorem add_nan {x y : Nat} (h : ¬ okF x ∨ ¬ okF y) : arF .add x y = none := by
  show Ieee.double.add x y = none
  unfold Ieee.Format.add
  rcases h with h | h
  · obtain ⟨s, t, e⟩ := read_nan h
    rw [e]; rfl
  · obtain ⟨s, t, e⟩ := read_nan h
    rw [e]
    cases Ieee.double.read x <;> rfl
theorem vf_nan {x y : Nat} (h : nanB x = true ∨ nanB y = true) : eqV (numV x) (numV y) = false ∧ lessV (numV x) (numV y) = false ∧ lessV (numV y) (numV x) = false ∧ nanB (rkFV 4 (numV x) (numV y)).f_Num = true := by
  have h1 : ¬ okF (bitsF x) ∨ ¬ okF (bitsF y) := h.imp bits_nan bits_nan
  have e : rkFV 4 (numV x) (numV y) = numV 9221120237041090561 := (rkF_yes (by unfold okOp; omega)).1.trans (flt_none (add_nan h1))
  rw [(vf_eq x y).1, (vf_less x y).1, (vf_less y x).1, e]
  exact ⟨(feq_nan h1).1, (feq_nan h1).2, (feq_nan h1.symm).2, (by show nanB (bitsF 9221120237041090561) = true; rw [bits_9]; exact nan_9)⟩
theorem vf_tri {x y : Nat} (hx : ¬ nanB x = true) (hy : ¬ nanB y = true) : eqV (numV x) (numV y) = feqF x y ∧ lessV (numV x) (numV y) = fltF x y ∧
    ((eqV (numV x) (numV y) = true ∧ lessV (numV x) (numV y) = false ∧ lessV (numV y) (numV x) = false) ∨ (eqV (numV x) (numV y) = false ∧ lessV (numV x) (numV y) = true ∧ lessV (numV y) (numV x) = false) ∨ (eqV (numV x) (numV y) = false ∧ lessV (numV x) (numV y) = false ∧ lessV (numV y) (numV x) = true)) := by
  have ox : okF x := Classical.not_not.1 fun q => hx ((nan_of x).2 q)
  have oy : okF y := Classical.not_not.1 fun q => hy ((nan_of y).2 q)
  rw [(vf_eq x y).1, (vf_less x y).1, (vf_less y x).1, bits_ok hx, bits_ok hy, (feq_is ox oy).1, (feq_is ox oy).2, (feq_is oy ox).2]
  refine ⟨rfl, rfl, ?_⟩
  simp only [decide_eq_true_eq, decide_eq_false_iff_not]
  omega
theorem nbF {b : Bool} (h : b = false) : ¬ b = true := by rw [h]; decide
theorem vf_no {e l m : Bool} (h : (e = true ∧ l = false ∧ m = false) ∨ (e = false ∧ l = true ∧ m = false) ∨ (e = false ∧ l = false ∧ m = true)) (he : e = true) : ¬ l = true ∧ ¬ m = true := by rcases h with h | h | h <;> simp_all
theorem vf_no2 {e l m : Bool} (h : (e = true ∧ l = false ∧ m = false) ∨ (e = false ∧ l = true ∧ m = false) ∨ (e = false ∧ l = false ∧ m = true)) (he : l = true) : ¬ m = true := by rcases h with h | h | h <;> simp_all
theorem vf_yes {e l m : Bool} (h : (e = true ∧ l = false ∧ m = false) ∨ (e = false ∧ l = true ∧ m = false) ∨ (e = false ∧ l = false ∧ m = true)) (he : ¬ e = true) (hl : ¬ l = true) : m = true := by rcases h with h | h | h <;> simp_all
end Go.Proofs.Ytlabmehgcfgigaa.Q
namespace Go.Proofs.Ytlabmehgcfgigaa.Q
open Go Go.RowKit
set_option linter.unusedVariables false
set_option linter.unusedSimpArgs false
set_option maxRecDepth 100000
set_option maxHeartbeats 4000000
theorem math_IsNaN_nan : Holds Try.prog 83 ⟨[sv (.d (.nan))], [], vB true, []⟩ := by
 refine Holds.of Try.func83 rfl (N := 6) Try.ntmps83 rfl fun w0 B0 S0 U0 => ?_
 show T _ (mkBase 6 0 w0 S0 U0 B0) ⟨[sv (.d (.nan))], []⟩ _ _
 refine sR [] ?_
 refine sR [hR 2 rfl rfl (r_nanNe (lt_of rfl) trivial)] ?_
 refine T.ret ?_
 exact eRt 2 (.one (dB true)) [] rfl trivial
theorem value_code_nan : Holds Try.prog 47 ⟨[sv (.d (.nan))], [], dv (.int .u64 9221120237041090561), []⟩ := by
 refine Holds.of Try.func47 rfl (N := 7) Try.ntmps47 rfl fun w0 B0 S0 U0 => ?_
 show T _ (mkBase 7 0 w0 S0 U0 B0) ⟨[sv (.d (.nan))], []⟩ _ _
 refine sR [] ?_
 refine T.seq ?_
 refine sR [hR 1 rfl rfl (rCa (math_IsNaN_nan  ) Try.func83 [] [(.tmp 3, sv (.d (.nan)))] 0 0)] ?_
 refine cT (b := true) rfl ?_
 refine sR [] ?_
 refine T.ret (rT ?_)
 exact eRt 2 (.one (.d (.val (.int .u64 9221120237041090561)))) [] rfl trivial
theorem value_ofNum_nan : Holds Try.prog 52 ⟨[sv (.d (.nan))], [], .tv (.agg [dI (numV 9221120237041090561).f_Kind, dI (numV 9221120237041090561).f_Int, dB (numV 9221120237041090561).f_Bool, dS (numV 9221120237041090561).f_Text, .d (.val (.float .f64 (numV 9221120237041090561).f_Num))]), []⟩ := by
 refine Holds.of Try.func52 rfl (N := 7) Try.ntmps52 rfl fun w0 B0 S0 U0 => ?_
 show T _ (mkBase 7 0 w0 S0 U0 B0) ⟨[sv (.d (.nan))], []⟩ _ _
 refine sR [] ?_
 refine sR [hR 1 rfl rfl (rCa (value_code_nan  ) Try.func47 [] [(.tmp 3, sv (.d (.nan)))] 0 0),
   hR 2 rfl rfl (r_ext1 (u := .int .u64 9221120237041090561) (v := .float .f64 9221120237041090561) (e := Extern.MathFloatBits.float64frombits) Try.func85 (by kernel_rfl) (by kernel_rfl) (by kernel_rfl) (by kernel_rfl) (fun w => rfl) (lt_of rfl) trivial)] ?_
 refine T.ret ?_
 exact eX [.c 2 0 24 0 24 [dI 4, dI 0, dB false, dS [], .d (.val (.float .f64 9221120237041090561))] (.agg [dI 4, dI 0, dB false, dS [], .d (.val (.float .f64 9221120237041090561))])] ⟨⟨rfl, rfl, by kernel_rfl, by kernel_rfl, .inl ⟨5, wide_24, rfl, Nat.le_of_ble_eq_true rfl⟩⟩, trivial⟩ [] (cg5 (fun (q1 : Int) (q2 : Int) (q3 : Bool) (q4 : List UInt8) (q5 : Nat) => (.tv (.agg [dI q1, dI q2, dB q3, dS q4, .d (.val (.float .f64 q5))]) : AV)) (by rfl) (by rfl) (by rfl) (by rfl) (by rfl)) trivial
theorem ref04_Num_nan : Holds Try.prog 30 ⟨[sv (.d (.nan))], [], .tv (.agg [dI (numV 9221120237041090561).f_Kind, dI (numV 9221120237041090561).f_Int, dB (numV 9221120237041090561).f_Bool, dS (numV 9221120237041090561).f_Text, .d (.val (.float .f64 (numV 9221120237041090561).f_Num))]), []⟩ := by
 refine Holds.of Try.func30 rfl (N := 9) Try.ntmps30 rfl fun w0 B0 S0 U0 => ?_
 show T _ (mkBase 9 0 w0 S0 U0 B0) ⟨[sv (.d (.nan))], []⟩ _ _
 refine sR [] ?_
 refine T.seq ?_
 refine sR [hR 2 rfl rfl (r_nanNe (lt_of rfl) trivial)] ?_
 refine cT (b := true) rfl ?_
 refine xK [hR 0 rfl rfl (rCa (ref04_NaN  ) Try.func49 [] [] 0 0)] ?_
 refine nT ?_
 refine sR [] ?_
 refine T.ret ?_
 exact eX [.c 2 0 24 0 24 [dI 4, dI 0, dB false, dS [], .d (.val (.float .f64 9221120237041090561))] (.agg [dI 4, dI 0, dB false, dS [], .d (.val (.float .f64 9221120237041090561))])] ⟨⟨rfl, rfl, by kernel_rfl, by kernel_rfl, .inl ⟨5, wide_24, rfl, Nat.le_of_ble_eq_true rfl⟩⟩, trivial⟩ [] (cg5 (fun (q1 : Int) (q2 : Int) (q3 : Bool) (q4 : List UInt8) (q5 : Nat) => (.tv (.agg [dI q1, dI q2, dB q3, dS q4, .d (.val (.float .f64 q5))]) : AV)) (by rfl) (by rfl) (by rfl) (by rfl) (by rfl)) trivial
theorem value_nums_nan (op : Int) (a : Nat) (b : Nat) (ha : a < 18446744073709551616) (hb : b < 18446744073709551616) (hc : (opF op a b) = none) : Holds Try.prog 53 ⟨[vI op, dv (.float .f64 a), dv (.float .f64 b)], [], sv (.d (.nan)), []⟩ := by
 refine Holds.of Try.func53 rfl (N := 36) Try.ntmps53 rfl fun w0 B0 S0 U0 => ?_
 show T _ (mkBase 36 0 w0 S0 U0 B0) ⟨[vI op, dv (.float .f64 a), dv (.float .f64 b)], []⟩ _ _
 refine sR [] ?_
 refine T.seq ?_
 refine sR [] ?_
 refine T.block ?_
 refine sR [] ?_
 by_cases hq1 : op = 4
 ·have ho9 : opF op a b = arF .add a b := (by rw [hq1]; rfl)
  refine cT (dT hq1) ?_
  by_cases hq2 : (arF .add a b) = none
  ·refine sR [hR 2 rfl rfl (r_arNan (op := .add) (a := a) (b := b) (by simp) hq2 (lt_of rfl) trivial)] ?_
   refine T.ret (rB (rT ?_))
   exact eRt 6 (.one (.d (.nan))) [] rfl trivial
  exact absurd (ho9.symm.trans hc) hq2
 refine cF (dF hq1) ?_
 refine sR [] ?_
 by_cases hq3 : op = 5
 ·have ho9 : opF op a b = arF .sub a b := (by rw [hq3]; rfl)
  refine cT (dT hq3) ?_
  by_cases hq4 : (arF .sub a b) = none
  ·refine sR [hR 2 rfl rfl (r_arNan (op := .sub) (a := a) (b := b) (by simp) hq4 (lt_of rfl) trivial)] ?_
   refine T.ret (rB (rT ?_))
   exact eRt 6 (.one (.d (.nan))) [] rfl trivial
  exact absurd (ho9.symm.trans hc) hq4
 refine cF (dF hq3) ?_
 refine sR [] ?_
 by_cases hq5 : op = 6
 ·have ho9 : opF op a b = arF .mul a b := (by rw [hq5]; rfl)
  refine cT (dT hq5) ?_
  by_cases hq6 : (arF .mul a b) = none
  ·refine sR [hR 2 rfl rfl (r_arNan (op := .mul) (a := a) (b := b) (by simp) hq6 (lt_of rfl) trivial)] ?_
   refine T.ret (rB (rT ?_))
   exact eRt 6 (.one (.d (.nan))) [] rfl trivial
  exact absurd (ho9.symm.trans hc) hq6
 refine cF (dF hq5) ?_
 refine sR [] ?_
 by_cases hq7 : op = 7
 ·have ho9 : opF op a b = arF .quo a b := (by rw [hq7]; rfl)
  refine cT (dT hq7) ?_
  by_cases hq8 : (arF .quo a b) = none
  ·refine sR [hR 2 rfl rfl (r_arNan (op := .quo) (a := a) (b := b) (by simp) hq8 (lt_of rfl) trivial)] ?_
   refine T.ret (rB (rT ?_))
   exact eRt 6 (.one (.d (.nan))) [] rfl trivial
  exact absurd (ho9.symm.trans hc) hq8
 refine cF (dF hq7) ?_
 refine sR [] ?_
 by_cases hq9 : op = 14
 ·have ho9 : opF op a b = mmF false a b := (by rw [hq9]; rfl)
  refine cT (dT hq9) ?_
  by_cases hq10 : (mmF false a b) = none
  ·refine sR [hR 2 rfl rfl (r_minNan (a := a) (b := b) hq10 (lt_of rfl) trivial)] ?_
   refine T.ret (rB (rT ?_))
   exact eRt 6 (.one (.d (.nan))) [] rfl trivial
  exact absurd (ho9.symm.trans hc) hq10
 have ho9 := opF_15 (op := op) (x := a) (y := b) ‹_› ‹_› ‹_› ‹_› hq9
 refine cF (dF hq9) ?_
 refine T.skip ?_
 refine nB ?_
 refine nT ?_
 by_cases hq11 : (mmF true a b) = none
 ·refine sR [hR 2 rfl rfl (r_maxNan (a := a) (b := b) hq11 (lt_of rfl) trivial)] ?_
  refine T.ret ?_
  exact eRt 6 (.one (.d (.nan))) [] rfl trivial
 exact absurd (ho9.symm.trans hc) hq11
theorem value_nums (op : Int) (a : Nat) (b : Nat) (ha : a < 18446744073709551616) (hb : b < 18446744073709551616) (hc : ¬ (opF op a b) = none) : Holds Try.prog 53 ⟨[vI op, dv (.float .f64 a), dv (.float .f64 b)], [], dv (.float .f64 ((opF op a b).getD 0)), []⟩ := by
 refine Holds.of Try.func53 rfl (N := 36) Try.ntmps53 rfl fun w0 B0 S0 U0 => ?_
 show T _ (mkBase 36 0 w0 S0 U0 B0) ⟨[vI op, dv (.float .f64 a), dv (.float .f64 b)], []⟩ _ _
 refine sR [] ?_
 refine T.seq ?_
 refine sR [] ?_
 refine T.block ?_
 refine sR [] ?_
 by_cases hq1 : op = 4
 ·have ho9 : opF op a b = arF .add a b := (by rw [hq1]; rfl)
  refine cT (dT hq1) ?_
  by_cases hq2 : (arF .add a b) = none
  ·exact absurd (ho9.trans hq2) hc
  refine sR [hR 2 rfl rfl (r_bin (u1 := .float .f64 a) (u2 := .float .f64 b) (v := .float .f64 ((arF .add a b).getD 0)) (b_ar (op := .add) (some_of hq2)) (lt_of rfl) trivial)] ?_
  refine T.ret (rB (rT ?_))
  exact eRt 6 (.one (.d (.val (.float .f64 ((arF .add a b).getD 0))))) [] (by have e1 : (((opF op a b).getD 0) : Nat) = ((arF .add a b).getD 0) := (by ((rw [ho9]; done))); have hE := congrArg (fun (q1 : Nat) => (dv (.float .f64 q1) : AV)) e1; exact hE) trivial
 refine cF (dF hq1) ?_
 refine sR [] ?_
 by_cases hq3 : op = 5
 ·have ho9 : opF op a b = arF .sub a b := (by rw [hq3]; rfl)
  refine cT (dT hq3) ?_
  by_cases hq4 : (arF .sub a b) = none
  ·exact absurd (ho9.trans hq4) hc
  refine sR [hR 2 rfl rfl (r_bin (u1 := .float .f64 a) (u2 := .float .f64 b) (v := .float .f64 ((arF .sub a b).getD 0)) (b_ar (op := .sub) (some_of hq4)) (lt_of rfl) trivial)] ?_
  refine T.ret (rB (rT ?_))
  exact eRt 6 (.one (.d (.val (.float .f64 ((arF .sub a b).getD 0))))) [] (by have e1 : (((opF op a b).getD 0) : Nat) = ((arF .sub a b).getD 0) := (by ((rw [ho9]; done))); have hE := congrArg (fun (q1 : Nat) => (dv (.float .f64 q1) : AV)) e1; exact hE) trivial
 refine cF (dF hq3) ?_
 refine sR [] ?_
 by_cases hq5 : op = 6
 ·have ho9 : opF op a b = arF .mul a b := (by rw [hq5]; rfl)
  refine cT (dT hq5) ?_
  by_cases hq6 : (arF .mul a b) = none
  ·exact absurd (ho9.trans hq6) hc
  refine sR [hR 2 rfl rfl (r_bin (u1 := .float .f64 a) (u2 := .float .f64 b) (v := .float .f64 ((arF .mul a b).getD 0)) (b_ar (op := .mul) (some_of hq6)) (lt_of rfl) trivial)] ?_
  refine T.ret (rB (rT ?_))
  exact eRt 6 (.one (.d (.val (.float .f64 ((arF .mul a b).getD 0))))) [] (by have e1 : (((opF op a b).getD 0) : Nat) = ((arF .mul a b).getD 0) := (by ((rw [ho9]; done))); have hE := congrArg (fun (q1 : Nat) => (dv (.float .f64 q1) : AV)) e1; exact hE) trivial
 refine cF (dF hq5) ?_
 refine sR [] ?_
 by_cases hq7 : op = 7
 ·have ho9 : opF op a b = arF .quo a b := (by rw [hq7]; rfl)
  refine cT (dT hq7) ?_
  by_cases hq8 : (arF .quo a b) = none
  ·exact absurd (ho9.trans hq8) hc
  refine sR [hR 2 rfl rfl (r_bin (u1 := .float .f64 a) (u2 := .float .f64 b) (v := .float .f64 ((arF .quo a b).getD 0)) (b_ar (op := .quo) (some_of hq8)) (lt_of rfl) trivial)] ?_
  refine T.ret (rB (rT ?_))
  exact eRt 6 (.one (.d (.val (.float .f64 ((arF .quo a b).getD 0))))) [] (by have e1 : (((opF op a b).getD 0) : Nat) = ((arF .quo a b).getD 0) := (by ((rw [ho9]; done))); have hE := congrArg (fun (q1 : Nat) => (dv (.float .f64 q1) : AV)) e1; exact hE) trivial
 refine cF (dF hq7) ?_
 refine sR [] ?_
 by_cases hq9 : op = 14
 ·have ho9 : opF op a b = mmF false a b := (by rw [hq9]; rfl)
  refine cT (dT hq9) ?_
  by_cases hq10 : (mmF false a b) = none
  ·exact absurd (ho9.trans hq10) hc
  refine sR [hR 2 rfl rfl (r_minF (a := a) (b := b) (some_of hq10) (lt_of rfl) trivial)] ?_
  refine T.ret (rB (rT ?_))
  exact eRt 6 (.one (.d (.val (.float .f64 ((mmF false a b).getD 0))))) [] (by have e1 : (((opF op a b).getD 0) : Nat) = ((mmF false a b).getD 0) := (by ((rw [ho9]; done))); have hE := congrArg (fun (q1 : Nat) => (dv (.float .f64 q1) : AV)) e1; exact hE) trivial
 have ho9 := opF_15 (op := op) (x := a) (y := b) ‹_› ‹_› ‹_› ‹_› hq9
 refine cF (dF hq9) ?_
 refine T.skip ?_
 refine nB ?_
 refine nT ?_
 by_cases hq11 : (mmF true a b) = none
 ·exact absurd (ho9.trans hq11) hc
 refine sR [hR 2 rfl rfl (r_maxF (a := a) (b := b) (some_of hq11) (lt_of rfl) trivial)] ?_
 refine T.ret ?_
 exact eRt 6 (.one (.d (.val (.float .f64 ((mmF true a b).getD 0))))) [] (by have e1 : (((opF op a b).getD 0) : Nat) = ((mmF true a b).getD 0) := (by ((rw [ho9]; done))); have hE := congrArg (fun (q1 : Nat) => (dv (.float .f64 q1) : AV)) e1; exact hE) trivial
theorem ref04_nums_nan (op : Int) (a : Nat) (b : Nat) (ha : a < 18446744073709551616) (hb : b < 18446744073709551616) (hc : (refF op a b) = none) : Holds Try.prog 57 ⟨[vI op, dv (.float .f64 a), dv (.float .f64 b)], [], sv (.d (.nan)), []⟩ := by
 refine Holds.of Try.func57 rfl (N := 47) Try.ntmps57 rfl fun w0 B0 S0 U0 => ?_
 show T _ (mkBase 47 0 w0 S0 U0 B0) ⟨[vI op, dv (.float .f64 a), dv (.float .f64 b)], []⟩ _ _
 refine sR [] ?_
 refine T.seq ?_
 refine sR [] ?_
 refine T.block ?_
 refine sR [] ?_
 by_cases hq1 : op = 4
 ·have ho9 : refF op a b = arF .add a b := (by rw [hq1]; rfl)
  refine cT (dT hq1) ?_
  by_cases hq2 : (arF .add a b) = none
  ·refine sR [hR 2 rfl rfl (r_arNan (op := .add) (a := a) (b := b) (by simp) hq2 (lt_of rfl) trivial)] ?_
   refine T.ret (rB (rT ?_))
   exact eRt 6 (.one (.d (.nan))) [] rfl trivial
  exact absurd (ho9.symm.trans hc) hq2
 refine cF (dF hq1) ?_
 refine sR [] ?_
 by_cases hq3 : op = 5
 ·have ho9 : refF op a b = arF .sub a b := (by rw [hq3]; rfl)
  refine cT (dT hq3) ?_
  by_cases hq4 : (arF .sub a b) = none
  ·refine sR [hR 2 rfl rfl (r_arNan (op := .sub) (a := a) (b := b) (by simp) hq4 (lt_of rfl) trivial)] ?_
   refine T.ret (rB (rT ?_))
   exact eRt 6 (.one (.d (.nan))) [] rfl trivial
  exact absurd (ho9.symm.trans hc) hq4
 refine cF (dF hq3) ?_
 refine sR [] ?_
 by_cases hq5 : op = 6
 ·have ho9 : refF op a b = arF .mul a b := (by rw [hq5]; rfl)
  refine cT (dT hq5) ?_
  by_cases hq6 : (arF .mul a b) = none
  ·refine sR [hR 2 rfl rfl (r_arNan (op := .mul) (a := a) (b := b) (by simp) hq6 (lt_of rfl) trivial)] ?_
   refine T.ret (rB (rT ?_))
   exact eRt 6 (.one (.d (.nan))) [] rfl trivial
  exact absurd (ho9.symm.trans hc) hq6
 refine cF (dF hq5) ?_
 refine sR [] ?_
 by_cases hq7 : op = 7
 ·have ho9 : refF op a b = arF .quo a b := (by rw [hq7]; rfl)
  refine cT (dT hq7) ?_
  by_cases hq8 : (arF .quo a b) = none
  ·refine sR [hR 2 rfl rfl (r_arNan (op := .quo) (a := a) (b := b) (by simp) hq8 (lt_of rfl) trivial)] ?_
   refine T.ret (rB (rT ?_))
   exact eRt 6 (.one (.d (.nan))) [] rfl trivial
  exact absurd (ho9.symm.trans hc) hq8
 exact absurd hc (by rw [refF_m ‹_› ‹_› ‹_› hq7]; exact fun w => by cases w)
theorem ref04_nums (op : Int) (a : Nat) (b : Nat) (ha : a < 18446744073709551616) (hb : b < 18446744073709551616) (hc : ¬ (refF op a b) = none) : Holds Try.prog 57 ⟨[vI op, dv (.float .f64 a), dv (.float .f64 b)], [], dv (.float .f64 ((refF op a b).getD 0)), []⟩ := by
 refine Holds.of Try.func57 rfl (N := 47) Try.ntmps57 rfl fun w0 B0 S0 U0 => ?_
 show T _ (mkBase 47 0 w0 S0 U0 B0) ⟨[vI op, dv (.float .f64 a), dv (.float .f64 b)], []⟩ _ _
 refine sR [] ?_
 refine T.seq ?_
 refine sR [] ?_
 refine T.block ?_
 refine sR [] ?_
 by_cases hq1 : op = 4
 ·have ho9 : refF op a b = arF .add a b := (by rw [hq1]; rfl)
  refine cT (dT hq1) ?_
  by_cases hq2 : (arF .add a b) = none
  ·exact absurd (ho9.trans hq2) hc
  refine sR [hR 2 rfl rfl (r_bin (u1 := .float .f64 a) (u2 := .float .f64 b) (v := .float .f64 ((arF .add a b).getD 0)) (b_ar (op := .add) (some_of hq2)) (lt_of rfl) trivial)] ?_
  refine T.ret (rB (rT ?_))
  exact eRt 6 (.one (.d (.val (.float .f64 ((arF .add a b).getD 0))))) [] (by have e1 : (((refF op a b).getD 0) : Nat) = ((arF .add a b).getD 0) := (by ((rw [ho9]; done))); have hE := congrArg (fun (q1 : Nat) => (dv (.float .f64 q1) : AV)) e1; exact hE) trivial
 refine cF (dF hq1) ?_
 refine sR [] ?_
 by_cases hq3 : op = 5
 ·have ho9 : refF op a b = arF .sub a b := (by rw [hq3]; rfl)
  refine cT (dT hq3) ?_
  by_cases hq4 : (arF .sub a b) = none
  ·exact absurd (ho9.trans hq4) hc
  refine sR [hR 2 rfl rfl (r_bin (u1 := .float .f64 a) (u2 := .float .f64 b) (v := .float .f64 ((arF .sub a b).getD 0)) (b_ar (op := .sub) (some_of hq4)) (lt_of rfl) trivial)] ?_
  refine T.ret (rB (rT ?_))
  exact eRt 6 (.one (.d (.val (.float .f64 ((arF .sub a b).getD 0))))) [] (by have e1 : (((refF op a b).getD 0) : Nat) = ((arF .sub a b).getD 0) := (by ((rw [ho9]; done))); have hE := congrArg (fun (q1 : Nat) => (dv (.float .f64 q1) : AV)) e1; exact hE) trivial
 refine cF (dF hq3) ?_
 refine sR [] ?_
 by_cases hq5 : op = 6
 ·have ho9 : refF op a b = arF .mul a b := (by rw [hq5]; rfl)
  refine cT (dT hq5) ?_
  by_cases hq6 : (arF .mul a b) = none
  ·exact absurd (ho9.trans hq6) hc
  refine sR [hR 2 rfl rfl (r_bin (u1 := .float .f64 a) (u2 := .float .f64 b) (v := .float .f64 ((arF .mul a b).getD 0)) (b_ar (op := .mul) (some_of hq6)) (lt_of rfl) trivial)] ?_
  refine T.ret (rB (rT ?_))
  exact eRt 6 (.one (.d (.val (.float .f64 ((arF .mul a b).getD 0))))) [] (by have e1 : (((refF op a b).getD 0) : Nat) = ((arF .mul a b).getD 0) := (by ((rw [ho9]; done))); have hE := congrArg (fun (q1 : Nat) => (dv (.float .f64 q1) : AV)) e1; exact hE) trivial
 refine cF (dF hq5) ?_
 refine sR [] ?_
 by_cases hq7 : op = 7
 ·have ho9 : refF op a b = arF .quo a b := (by rw [hq7]; rfl)
  refine cT (dT hq7) ?_
  by_cases hq8 : (arF .quo a b) = none
  ·exact absurd (ho9.trans hq8) hc
  refine sR [hR 2 rfl rfl (r_bin (u1 := .float .f64 a) (u2 := .float .f64 b) (v := .float .f64 ((arF .quo a b).getD 0)) (b_ar (op := .quo) (some_of hq8)) (lt_of rfl) trivial)] ?_
  refine T.ret (rB (rT ?_))
  exact eRt 6 (.one (.d (.val (.float .f64 ((arF .quo a b).getD 0))))) [] (by have e1 : (((refF op a b).getD 0) : Nat) = ((arF .quo a b).getD 0) := (by ((rw [ho9]; done))); have hE := congrArg (fun (q1 : Nat) => (dv (.float .f64 q1) : AV)) e1; exact hE) trivial
 have hr9 := refF_m (op := op) (x := a) (y := b) ‹_› ‹_› ‹_› ‹_›
 refine cF (dF hq7) ?_
 refine T.skip ?_
 refine nB ?_
 refine nT (T.seq ?_)
 by_cases hq9 : (nanB a) = true
 ·refine sR [hR 2 rfl rfl (r_bin (u1 := .float .f64 a) (u2 := .float .f64 a) (v := .bool (nanB a)) b_nan (lt_of rfl) trivial),
    hN 4 false hq9,
    hN 5 false hq9,
    hN 6 false hq9,
    hP 7 hq9] ?_
  refine cT (b := true) rfl ?_
  refine sR [hR 0 rfl rfl (rCa (ref04_NaN  ) Try.func49 [] [] 0 0)] ?_
  refine T.ret (rT ?_)
  exact eRt 6 (.one (.d (.val (.float .f64 9221120237041090561)))) [] (by have e1 : (((refF op a b).getD 0) : Nat) = 9221120237041090561 := (by ((rw [hr9, if_pos (by exact .inl ‹_›)]; rfl))); have hE := congrArg (fun (q1 : Nat) => (dv (.float .f64 q1) : AV)) e1; exact hE) trivial
 replace hq9 := Bool.eq_false_iff.2 hq9
 refine sR [hR 2 rfl rfl (r_bin (u1 := .float .f64 a) (u2 := .float .f64 a) (v := .bool (nanB a)) b_nan (lt_of rfl) trivial),
   hY 4 hq9,
   hY 5 hq9,
   hS 6 (oY rfl rfl rfl rfl (lt_of rfl) hq9 (r_bin (u1 := .float .f64 b) (u2 := .float .f64 b) (v := .bool (nanB b)) b_nan (lt_of rfl) (by exact trivial))),
   hP 7 hq9] ?_
 by_cases hq10 : (nanB b) = true
 ·refine cT hq10 ?_
  refine sR [hR 0 rfl rfl (rCa (ref04_NaN  ) Try.func49 [] [] 0 0)] ?_
  refine T.ret (rT ?_)
  exact eRt 6 (.one (.d (.val (.float .f64 9221120237041090561)))) [] (by have e1 : (((refF op a b).getD 0) : Nat) = 9221120237041090561 := (by ((rw [hr9, if_pos (by exact .inr ‹_›)]; rfl))); have hE := congrArg (fun (q1 : Nat) => (dv (.float .f64 q1) : AV)) e1; exact hE) trivial
 replace hq10 := Bool.eq_false_iff.2 hq10
 refine cF hq10 ?_
 refine T.skip (nT (T.seq ?_))
 refine sR [hR 1 rfl rfl (rCa (ref04_rank a ‹_›) Try.func46 [] [(.tmp 37, dv (.float .f64 a))] 0 0),
   hR 3 rfl rfl (rCa (ref04_rank b ‹_›) Try.func46 [] [(.tmp 39, dv (.float .f64 b))] 0 0)] ?_
 by_cases hq11 : (decide (((rankF a : Nat) : Int) < ((rankF b : Nat) : Int))) = (decide (op = 14))
 ·refine cT (dT hq11) ?_
  refine sR [] ?_
  refine T.ret (rT ?_)
  exact eRt 6 (.one (.d (.val (.float .f64 a)))) [] (by have e1 : (((refF op a b).getD 0) : Nat) = a := (by ((rw [hr9, if_neg (fun w => by rcases w with w | w <;> simp_all), if_pos ‹_›]; rfl))); have hE := congrArg (fun (q1 : Nat) => (dv (.float .f64 q1) : AV)) e1; exact hE) trivial
 refine cF (dF hq11) ?_
 refine T.skip (nT ?_)
 refine sR [] ?_
 refine T.ret ?_
 exact eRt 6 (.one (.d (.val (.float .f64 b)))) [] (by have e1 : (((refF op a b).getD 0) : Nat) = b := (by ((rw [hr9, if_neg (fun w => by rcases w with w | w <;> simp_all), if_neg ‹_›]; rfl))); have hE := congrArg (fun (q1 : Nat) => (dv (.float .f64 q1) : AV)) e1; exact hE) trivial
abbrev Z3z : TV := .one (dI 0)
abbrev Z40 : TV := .one (dB false)
theorem ref04_times (a : Int) (b : Int) (ha : inR a) (hb : inR b) : Holds Try.prog 87 ⟨[vI a, vI b], [], .tup [.one (dI (tmsN a b)), .one (dB (decide (inR (a * b))))], []⟩ := by
 refine Holds.of Try.func87 rfl (N := 36) Try.ntmps87 rfl fun w0 B0 S0 U0 => ?_
 show T _ (mkBase 36 0 w0 S0 U0 B0) ⟨[vI a, vI b], []⟩ _ _
 have ha1 := ha.1
 have ha2 := ha.2
 have hb1 := hb.1
 have hb2 := hb.2
 refine sR [] ?_
 refine T.seq ?_
 by_cases hq1 : a = 0
 ·refine sR [hN 3 false (dT hq1),
    hN 4 false (dT hq1),
    hP 5 (dT hq1)] ?_
  refine cT (b := true) rfl ?_
  refine sR [] ?_
  refine T.ret (rT ?_)
  exact eX [.t 4 (Z3z), .t 5 (.one (dB true))] ⟨⟨rfl, by kernel_rfl⟩, ⟨⟨rfl, by kernel_rfl⟩, trivial⟩⟩ [] (cg2 (fun (q1 : Int) (q2 : Bool) => (.tup [.one (dI q1), .one (dB q2)] : AV)) (by ((have h9 := tms_0 (a := a) (b := b) (by omega); exact h9.1))) (by ((have h9 := tms_0 (a := a) (b := b) (by omega); exact h9.2)))) trivial
 refine sR [hY 3 (dF hq1),
   hY 4 (dF hq1),
   hP 5 (dF hq1)] ?_
 by_cases hq2 : b = 0
 ·refine cT (dT hq2) ?_
  refine sR [] ?_
  refine T.ret (rT ?_)
  exact eX [.t 4 (Z3z), .t 5 (.one (dB true))] ⟨⟨rfl, by kernel_rfl⟩, ⟨⟨rfl, by kernel_rfl⟩, trivial⟩⟩ [] (cg2 (fun (q1 : Int) (q2 : Bool) => (.tup [.one (dI q1), .one (dB q2)] : AV)) (by ((have h9 := tms_0 (a := a) (b := b) (by omega); exact h9.1))) (by ((have h9 := tms_0 (a := a) (b := b) (by omega); exact h9.2)))) trivial
 refine cF (dF hq2) ?_
 refine T.skip (nT ?_)
 refine sR [hR 2 rfl rfl (r_bin (u1 := .int .i64 a) (u2 := .int .i64 b) (v := .int .i64 (IntKind.i64.wrap (a * b))) (b_mul rfl) (lt_of rfl) trivial)] ?_
 refine T.seq ?_
 by_cases hq3 : a = (-1)
 ·by_cases hq4 : b = (-9223372036854775808)
  ·refine sR [hY 3 (dT hq3),
     hY 4 (dT hq3),
     hP 5 (dT hq3),
     hN 7 false (dT hq4),
     hN 8 false (dT hq4),
     hN 9 false (dT hq4),
     hU 10,
     hU 11,
     hN 12 false (dT hq4),
     hP 13 (dT hq4)] ?_
   refine cT (b := true) rfl ?_
   refine sR [] ?_
   refine T.ret (rT ?_)
   exact eX [.t 4 (Z3z), .t 5 (Z40)] ⟨⟨rfl, by kernel_rfl⟩, ⟨⟨rfl, by kernel_rfl⟩, trivial⟩⟩ [] (cg2 (fun (q1 : Int) (q2 : Bool) => (.tup [.one (dI q1), .one (dB q2)] : AV)) (by ((have h9 := tms_x (a := a) (b := b) ‹_› ‹_› (by omega); exact h9.1))) (by ((have h9 := tms_x (a := a) (b := b) ‹_› ‹_› (by omega); exact h9.2)))) trivial
  by_cases hq5 : b = (-1)
  ·refine sR [hY 3 (dT hq3),
     hY 4 (dT hq3),
     hP 5 (dT hq3),
     hY 7 (dF hq4),
     hY 8 (dF hq4),
     hY 9 (dF hq4),
     hY 10 (dT hq5),
     hY 11 (dT hq5),
     hS 12 (oY rfl rfl rfl rfl (lt_of rfl) (dF hq4) (r_pickT (b := (decide (b = (-1)))) (av := vB (decide (a = (-9223372036854775808)))) (lt_of rfl) trivial (dT hq5))),
     hP 13 (dF hq4)] ?_
   by_cases hq6 : a = (-9223372036854775808)
   ·refine cT (dT hq6) ?_
    refine sR [] ?_
    refine T.ret (rT ?_)
    exact eX [.t 4 (Z3z), .t 5 (Z40)] ⟨⟨rfl, by kernel_rfl⟩, ⟨⟨rfl, by kernel_rfl⟩, trivial⟩⟩ [] (cg2 (fun (q1 : Int) (q2 : Bool) => (.tup [.one (dI q1), .one (dB q2)] : AV)) (by ((have h9 := tms_0 (a := a) (b := b) (by omega); exact h9.1))) (by ((have h9 := tms_x (a := a) (b := b) ‹_› ‹_› (by omega); exact h9.2)))) trivial
   refine cF (dF hq6) ?_
   refine T.skip (nT ?_)
   refine sD [[], [], [], [1, 2], [], [1, 2, 3, 4], [0], [0, 1, 2, 3, 4, 5, 6]] [hR 3 rfl rfl (r_bin (u1 := .int .i64 (IntKind.i64.wrap (a * b))) (u2 := .int .i64 b) (v := .int .i64 (IntKind.i64.wrap ((IntKind.i64.wrap (a * b)).tdiv b))) (b_quo ‹_› rfl) (lt_of rfl) trivial)] ?_
   refine T.ret ?_
   exact eX [.t 4 (.one (dI (IntKind.i64.wrap (a * b)))), .t 5 (.one (dB (decide ((IntKind.i64.wrap ((IntKind.i64.wrap (a * b)).tdiv b)) = a))))] ⟨⟨rfl, by kernel_rfl⟩, ⟨⟨rfl, by kernel_rfl⟩, trivial⟩⟩ [] (cg2 (fun (q1 : Int) (q2 : Bool) => (.tup [.one (dI q1), .one (dB q2)] : AV)) (by ((have h9 := tms_ok ha hb ‹_› ‹_› (by omega); exact h9.1))) (by ((have h9 := tms_ok ha hb ‹_› ‹_› (by omega); exact decide_eq_decide.2 h9.2)))) trivial
  refine sR [hY 3 (dT hq3),
    hY 4 (dT hq3),
    hP 5 (dT hq3),
    hY 7 (dF hq4),
    hY 8 (dF hq4),
    hY 9 (dF hq4),
    hN 10 true (dF hq5),
    hN 11 true (dF hq5),
    hS 12 (oY rfl rfl rfl rfl (lt_of rfl) (dF hq4) (r_pickF (b := (decide (b = (-1)))) (av := vB false) (lt_of rfl) ⟨rfl, trivial⟩ (dF hq5))),
    hP 13 (dF hq4)] ?_
  refine cF (b := false) rfl ?_
  refine T.skip (nT ?_)
  refine sD [[], [], [], [1, 2], [], [1, 2, 3, 4], [0], [0, 1, 2, 3, 4, 5, 6]] [hR 3 rfl rfl (r_bin (u1 := .int .i64 (IntKind.i64.wrap (a * b))) (u2 := .int .i64 b) (v := .int .i64 (IntKind.i64.wrap ((IntKind.i64.wrap (a * b)).tdiv b))) (b_quo ‹_› rfl) (lt_of rfl) trivial)] ?_
  refine T.ret ?_
  exact eX [.t 4 (.one (dI (IntKind.i64.wrap (a * b)))), .t 5 (.one (dB (decide ((IntKind.i64.wrap ((IntKind.i64.wrap (a * b)).tdiv b)) = a))))] ⟨⟨rfl, by kernel_rfl⟩, ⟨⟨rfl, by kernel_rfl⟩, trivial⟩⟩ [] (cg2 (fun (q1 : Int) (q2 : Bool) => (.tup [.one (dI q1), .one (dB q2)] : AV)) (by ((have h9 := tms_ok ha hb ‹_› ‹_› (by omega); exact h9.1))) (by ((have h9 := tms_ok ha hb ‹_› ‹_› (by omega); exact decide_eq_decide.2 h9.2)))) trivial
 by_cases hq7 : b = (-1)
 ·refine sR [hN 3 true (dF hq3),
    hN 4 true (dF hq3),
    hP 5 (dF hq3),
    hY0 7,
    hY0 8,
    hY0 9,
    hY 10 (dT hq7),
    hY 11 (dT hq7),
    hS 12 (oY (b := false) rfl rfl rfl rfl (lt_of rfl) rfl (r_pickT (b := (decide (b = (-1)))) (av := vB (decide (a = (-9223372036854775808)))) (lt_of rfl) trivial (dT hq7))),
    hP0 13] ?_
  by_cases hq8 : a = (-9223372036854775808)
  ·refine cT (dT hq8) ?_
   refine sR [] ?_
   refine T.ret (rT ?_)
   exact eX [.t 4 (Z3z), .t 5 (Z40)] ⟨⟨rfl, by kernel_rfl⟩, ⟨⟨rfl, by kernel_rfl⟩, trivial⟩⟩ [] (cg2 (fun (q1 : Int) (q2 : Bool) => (.tup [.one (dI q1), .one (dB q2)] : AV)) (by ((have h9 := tms_x (a := a) (b := b) ‹_› ‹_› (by omega); exact h9.1))) (by ((have h9 := tms_x (a := a) (b := b) ‹_› ‹_› (by omega); exact h9.2)))) trivial
  refine cF (dF hq8) ?_
  refine T.skip (nT ?_)
  refine sD [[], [], [], [1, 2], [], [1, 2, 3, 4], [0], [0, 1, 2, 3, 4, 5, 6]] [hR 3 rfl rfl (r_bin (u1 := .int .i64 (IntKind.i64.wrap (a * b))) (u2 := .int .i64 b) (v := .int .i64 (IntKind.i64.wrap ((IntKind.i64.wrap (a * b)).tdiv b))) (b_quo ‹_› rfl) (lt_of rfl) trivial)] ?_
  refine T.ret ?_
  exact eX [.t 4 (.one (dI (IntKind.i64.wrap (a * b)))), .t 5 (.one (dB (decide ((IntKind.i64.wrap ((IntKind.i64.wrap (a * b)).tdiv b)) = a))))] ⟨⟨rfl, by kernel_rfl⟩, ⟨⟨rfl, by kernel_rfl⟩, trivial⟩⟩ [] (cg2 (fun (q1 : Int) (q2 : Bool) => (.tup [.one (dI q1), .one (dB q2)] : AV)) (by ((have h9 := tms_ok ha hb ‹_› ‹_› (by omega); exact h9.1))) (by ((have h9 := tms_ok ha hb ‹_› ‹_› (by omega); exact decide_eq_decide.2 h9.2)))) trivial
 refine sR [hN 3 true (dF hq3),
   hN 4 true (dF hq3),
   hP 5 (dF hq3),
   hY0 7,
   hY0 8,
   hY0 9,
   hN 10 true (dF hq7),
   hN 11 true (dF hq7),
   hS 12 (oY (b := false) rfl rfl rfl rfl (lt_of rfl) rfl (r_pickF (b := (decide (b = (-1)))) (av := vB false) (lt_of rfl) ⟨rfl, trivial⟩ (dF hq7))),
   hP0 13] ?_
 refine cF (b := false) rfl ?_
 refine T.skip (nT ?_)
 refine sD [[], [], [], [1, 2], [], [1, 2, 3, 4], [0], [0, 1, 2, 3, 4, 5, 6]] [hR 3 rfl rfl (r_bin (u1 := .int .i64 (IntKind.i64.wrap (a * b))) (u2 := .int .i64 b) (v := .int .i64 (IntKind.i64.wrap ((IntKind.i64.wrap (a * b)).tdiv b))) (b_quo ‹_› rfl) (lt_of rfl) trivial)] ?_
 refine T.ret ?_
 exact eX [.t 4 (.one (dI (IntKind.i64.wrap (a * b)))), .t 5 (.one (dB (decide ((IntKind.i64.wrap ((IntKind.i64.wrap (a * b)).tdiv b)) = a))))] ⟨⟨rfl, by kernel_rfl⟩, ⟨⟨rfl, by kernel_rfl⟩, trivial⟩⟩ [] (cg2 (fun (q1 : Int) (q2 : Bool) => (.tup [.one (dI q1), .one (dB q2)] : AV)) (by ((have h9 := tms_ok ha hb ‹_› ‹_› (by omega); exact h9.1))) (by ((have h9 := tms_ok ha hb ‹_› ‹_› (by omega); exact decide_eq_decide.2 h9.2)))) trivial
end Go.Proofs.Ytlabmehgcfgigaa.Q
