import Derived.Test.YtlabmehgcfgigaaC04n10
namespace Go.Proofs.Ytlabmehgcfgigaa.Q
set_option linter.unusedVariables false
set_option linter.unusedSimpArgs false
set_option maxRecDepth 100000

/-! ### Fields -/

def idxS (l : List (List UInt8)) (s : List UInt8) : Int := if s ∈ l then ((l.findIdx (fun x => decide (s = x)) : Nat) : Int) else -1
theorem idx_at {l : List (List UInt8)} {s : List UInt8} {k : Nat} (hk : k < l.length) (h : s = l.getD k []) (hb : ∀ j, j < k → ¬ s = l.getD j []) : idxS l s = ((k : Nat) : Int) := by
  have hm : s ∈ l := h ▸ getD_mem hk
  have he : l.getD k [] = l[k] := by rw [List.getD_eq_getElem?_getD, List.getElem?_eq_getElem hk]; rfl
  unfold idxS
  rw [if_pos hm, (List.findIdx_eq hk).2 ⟨decide_eq_true (h.trans he), fun j hj => by
    have := hb j hj
    rw [List.getD_eq_getElem?_getD, List.getElem?_eq_getElem (by omega)] at this
    simpa using this⟩]
theorem idx_no {l : List (List UInt8)} {s : List UInt8} {k : Nat} (hk : l.length ≤ k) (hb : ∀ j, j < k → ¬ s = l.getD j []) : idxS l s = -1 :=
  if_neg (not_mem_get (z := []) hk fun j hj e => hb j hj e.symm)
theorem idx_ge {l : List (List UInt8)} {s : List UInt8} : idxS l s ≥ 0 ↔ s ∈ l := by
  unfold idxS
  split
  · rename_i h; exact ⟨fun _ => h, fun _ => by omega⟩
  · rename_i h; exact ⟨fun q => absurd q (by decide), fun q => absurd q h⟩
def fitsE (v : Val) (f : api_Field) : Int := if goodV v ∧ v.f_Kind = f.f_Kind then (if v.f_Kind = 3 ∧ 0 < f.f_Enum.length ∧ ¬ v.f_Text ∈ f.f_Enum then 60 else 0) else 40
section
variable {v : Val} {f : api_Field}
theorem fits_type (h : ¬ (goodV v ∧ v.f_Kind = f.f_Kind)) : fitsE v f = 40 := if_neg h
theorem fits_yes (h : goodV v ∧ v.f_Kind = f.f_Kind) (h' : ¬ (v.f_Kind = 3 ∧ 0 < f.f_Enum.length ∧ ¬ v.f_Text ∈ f.f_Enum)) : fitsE v f = 0 := by rw [fitsE, if_pos h, if_neg h']
theorem fits_no (h : goodV v ∧ v.f_Kind = f.f_Kind) (h' : v.f_Kind = 3 ∧ 0 < f.f_Enum.length ∧ ¬ v.f_Text ∈ f.f_Enum) : fitsE v f = 60 := by rw [fitsE, if_pos h, if_pos h']
end

/-! ### Ints, there and back -/

theorem order_bd (a b : Val) : -1 ≤ orderV a b ∧ orderV a b ≤ 1 := by
  have hc : ∀ x y : Int, -1 ≤ cmpI x y ∧ cmpI x y ≤ 1 := fun x y => by unfold cmpI; split <;> (try split) <;> omega
  have hs : ∀ x y : List UInt8, -1 ≤ cmpS x y ∧ cmpS x y ≤ 1 := fun x y => by unfold cmpS; split <;> (try split) <;> omega
  unfold orderV
  split
  · exact hc _ _
  · split
    · exact hc _ _
    · split
      · exact hs _ _
      · split
        · exact hc _ _
        · split
          · split
            · omega
            · split <;> omega
          · omega
theorem resN_range (n : Int) : inR (resN n) := by unfold resN; split <;> first | assumption | decide
theorem intsN_range {op a b : Int} (ha : inR a) (hb : inR b) : inR (intsN op a b) := by
  unfold intsN
  split
  · exact resN_range _
  · split
    · exact resN_range _
    · split
      · exact resN_range _
      · split
        · split
          · decide
          · exact resN_range _
        · unfold inR at *
          split <;> omega
theorem reckV_range {op : Int} {a b : Val} (ha : inR a.f_Int) (hb : inR b.f_Int) : inR (reckV op a b).f_Int := by
  unfold reckV
  split
  · exact intsN_range ha hb
  · decide
theorem reckV_kind (op : Int) (a b c : Val) : ¬ (bothV (reckV op a b) c ∧ (reckV op a b).f_Kind = 4) := fun h => by
  have h := h.2
  unfold reckV at h
  split at h
  · exact absurd (show (1 : Int) = 4 from h) (by decide)
  · exact absurd h (by decide)
theorem intV_kind (n : Int) (c : Val) : ¬ (bothV (intV n) c ∧ (intV n).f_Kind = 4) := fun h => absurd (show (1 : Int) = 4 from h.2) (by decide)
theorem intV_range {n : Int} (h : inR n) : inR (intV n).f_Int := h
section
variable {x y : Int} (hx : inR x) (hy : inR y)
theorem reck4 (h : reckE 4 (intV x) (intV y) = 0) : reckV 4 (intV x) (intV y) = intV (x + y) ∧ inR (x + y) := by
  obtain ⟨h1, h2⟩ := reck_int (op := 4) (m := x) (n := y) (by decide)
  rw [h1] at h
  have hr : inR (x + y) := by
    apply Classical.byContradiction
    intro hn
    rw [(ints_4 x y).2, (res_no hn).2] at h
    cases h
  exact ⟨by rw [h2 h, (ints_4 x y).1, (res_yes hr).1], hr⟩
theorem reck5 {x y : Int} (h : inR (x - y)) : reckE 5 (intV x) (intV y) = 0 ∧ reckV 5 (intV x) (intV y) = intV (x - y) := by
  obtain ⟨h1, h2⟩ := reck_int (op := 5) (m := x) (n := y) (by decide)
  have e : intsE 5 x y = 0 := (ints_5 x y).2.trans (res_yes h).2
  exact ⟨h1.trans e, by rw [h2 e, (ints_5 x y).1, (res_yes h).1]⟩
theorem reck6 (h : reckE 6 (intV x) (intV y) = 0) : reckV 6 (intV x) (intV y) = intV (x * y) ∧ inR (x * y) := by
  obtain ⟨h1, h2⟩ := reck_int (op := 6) (m := x) (n := y) (by decide)
  rw [h1] at h
  have hr : inR (x * y) := by
    apply Classical.byContradiction
    intro hn
    rw [(ints_6 x y).2, (res_no hn).2] at h
    cases h
  exact ⟨by rw [h2 h, (ints_6 x y).1, (res_yes hr).1], hr⟩
theorem reck6' {x y : Int} (h : inR (x * y)) : reckE 6 (intV x) (intV y) = 0 ∧ reckV 6 (intV x) (intV y) = intV (x * y) := by
  obtain ⟨h1, h2⟩ := reck_int (op := 6) (m := x) (n := y) (by decide)
  have e : intsE 6 x y = 0 := (ints_6 x y).2.trans (res_yes h).2
  exact ⟨h1.trans e, by rw [h2 e, (ints_6 x y).1, (res_yes h).1]⟩
theorem reck7 {x y : Int} (hy : ¬ y = 0) (h : inR (x.tdiv y)) : reckE 7 (intV x) (intV y) = 0 ∧ reckV 7 (intV x) (intV y) = intV (x.tdiv y) := by
  obtain ⟨h1, h2⟩ := reck_int (op := 7) (m := x) (n := y) (by decide)
  have e : intsE 7 x y = 0 := (ints_7 hy).2.trans (res_yes h).2
  exact ⟨h1.trans e, by rw [h2 e, (ints_7 hy).1, (res_yes h).1]⟩
theorem reck7_zero {x y : Int} (hy : y = 0) : reckE 7 (intV x) (intV y) = 42 := by
  obtain ⟨h1, h2⟩ := reck_int (op := 7) (m := x) (n := y) (by decide)
  exact h1.trans (ints_70 hy).2
theorem reck7_no {x y : Int} (hx : inR x) (hy : ¬ y = 0) (h : reckE 7 (intV x) (intV y) ≠ 0) : reckE 7 (intV x) (intV y) = 41 ∧ y = -1 := by
  obtain ⟨h1, h2⟩ := reck_int (op := 7) (m := x) (n := y) (by decide)
  by_cases hr : inR (x.tdiv y)
  · exact absurd (h1.trans ((ints_7 hy).2.trans (res_yes hr).2)) h
  · refine ⟨h1.trans ((ints_7 hy).2.trans (res_no hr).2), ?_⟩
    apply Classical.byContradiction
    intro hm
    exact hr (div_ok hx hy (.inr hm))
include hx in
theorem vi_add (h : reckE 4 (intV x) (intV y) = 0) : reckE 5 (reckV 4 (intV x) (intV y)) (intV y) = 0 ∧ (reckV 5 (reckV 4 (intV x) (intV y)) (intV y)).f_Int = x ∧ (y ≥ 0 ↔ (reckV 4 (intV x) (intV y)).f_Int ≥ x) := by
  obtain ⟨h1, h2⟩ := reck4 h
  have e : x + y - y = x := by omega
  obtain ⟨h3, h4⟩ := reck5 (x := x + y) (y := y) (by rw [e]; exact hx)
  rw [h1]
  refine ⟨h3, by rw [h4, e]; rfl, ?_⟩
  show y ≥ 0 ↔ x + y ≥ x
  omega
include hx in
theorem vi_mul (h : reckE 6 (intV x) (intV y) = 0) (hy : ¬ y = 0) : reckE 7 (reckV 6 (intV x) (intV y)) (intV y) = 0 ∧ (reckV 7 (reckV 6 (intV x) (intV y)) (intV y)).f_Int = x := by
  obtain ⟨h1, h2⟩ := reck6 h
  have e : (x * y).tdiv y = x := Int.mul_tdiv_cancel x hy
  obtain ⟨h3, h4⟩ := reck7 (x := x * y) (y := y) hy (by rw [e]; exact hx)
  rw [h1]
  exact ⟨h3, by rw [h4, e]; rfl⟩
theorem vi_div (hx : inR x) (hy : ¬ y = 0) (h : ¬ reckE 7 (intV x) (intV y) ≠ 0) : reckE 6 (reckV 7 (intV x) (intV y)) (intV y) = 0 ∧ reckE 5 (intV x) (reckV 6 (reckV 7 (intV x) (intV y)) (intV y)) = 0 ∧
    ((reckV 5 (intV x) (reckV 6 (reckV 7 (intV x) (intV y)) (intV y))).f_Int = 0 ∨ ((reckV 5 (intV x) (reckV 6 (reckV 7 (intV x) (intV y)) (intV y))).f_Int < 0 ↔ x < 0)) := by
  have h := Classical.not_not.1 h
  have hr : inR (x.tdiv y) := by
    apply Classical.byContradiction
    intro hn
    obtain ⟨h1, _⟩ := reck_int (op := 7) (m := x) (n := y) (by decide)
    rw [h1, (ints_7 hy).2, (res_no hn).2] at h
    cases h
  obtain ⟨_, h4⟩ := reck7 hy hr
  have hm := Int.mul_tdiv_add_tmod x y
  have h7 : (x.tmod y).natAbs ≤ x.natAbs := by rw [Int.natAbs_tmod]; exact Nat.mod_le _ _
  have h8 : 0 ≤ x → 0 ≤ x.tmod y := fun h => Int.tmod_nonneg y h
  have h9 : x < 0 → x.tmod y ≤ 0 := fun h => by
    have := Int.tmod_nonneg y (show 0 ≤ -x by omega)
    rw [Int.neg_tmod] at this
    omega
  have hc : y * x.tdiv y = x.tdiv y * y := Int.mul_comm _ _
  rw [hc] at hm
  have hq : inR (x.tdiv y * y) := by unfold inR at *; omega
  obtain ⟨g1, g2⟩ := reck6' hq
  have hs : inR (x - x.tdiv y * y) := by unfold inR at *; omega
  obtain ⟨k1, k2⟩ := reck5 hs
  rw [h4, g2]
  refine ⟨g1, k1, ?_⟩
  rw [k2]
  show x - x.tdiv y * y = 0 ∨ (x - x.tdiv y * y < 0 ↔ x < 0)
  omega
end
end Go.Proofs.Ytlabmehgcfgigaa.Q
namespace Go.Proofs.Ytlabmehgcfgigaa.Q
open Go Go.RowKit
set_option linter.unusedVariables false
set_option linter.unusedSimpArgs false
set_option maxRecDepth 100000
set_option maxHeartbeats 4000000
-- slices.Index[[]string,string]
theorem slices_IndexS (tl : Bool) (nl : Bool) (l : List (List UInt8)) (s : List UInt8) (hl : l.length ≤ 9223372036854775807) : Holds Try.prog 88 ⟨[slV tl nl kStr l, dv (strV s)], [], dv (.int .i64 (idxS l s)), []⟩ := by
  refine Holds.of Try.func88 rfl (N := 19) Try.ntmps88 rfl fun w0 B0 S0 U0 => ?_
  show T _ (mkBase 19 0 w0 S0 U0 B0) ⟨[slV tl nl kStr l, dv (strV s)], []⟩ _ _
  refine T.seq ?_
  refine xR [] (by kernel_rfl) (by kernel_rfl) ?_
  refine nT ?_
  refine T.seq ?_
  refine T.seq ?_
  refine xR [] (by kernel_rfl) (by kernel_rfl) ?_
  refine nT ?_
  refine T.block ?_
  refine T.loop (ι := Nat) (fun (k : Nat) => ⟨[slV tl nl kStr l, dv (strV s), aa, aa, dv (.int .i64 0), aa, aa, dv (.int .i64 ((l.length : Nat) : Int)), dv (.int .i64 ((k : Nat) : Int))], []⟩) (fun (k : Nat) => (k ≤ l.length) ∧ (∀ j, j < k → ¬ s = l.getD j [])) (fun (k : Nat) => l.length - k) (0) ⟨(Nat.zero_le _), (fun j hj => absurd hj (Nat.not_lt_zero _))⟩ (fun _ _ hG => Gs.into2 (s' := ⟨[slV tl nl kStr l, dv (strV s), aa, aa, dv (.int .i64 0), aa, aa, dv (.int .i64 ((l.length : Nat) : Int)), dv (.int .i64 0)], []⟩) [] (bm 9 403) (t1 := [slV tl nl kStr l, dv (strV s), aa, aa, dv (.int .i64 0), aa, aa, dv (.int .i64 ((l.length : Nat) : Int)), dv (.int .i64 0)]) (h1 := []) rfl rfl (by kernel_rfl) (by kernel_rfl) (by kernel_rfl) (by kernel_rfl) (by kernel_rfl) (by kernel_rfl) (by kernel_rfl) (by kernel_rfl) (by kernel_rfl) (by kernel_rfl) (by kernel_rfl) hG) ?_
  rintro k ⟨hk, hb⟩
  show T _ _ ⟨[slV tl nl kStr l, dv (strV s), aa, aa, dv (.int .i64 0), aa, aa, dv (.int .i64 ((l.length : Nat) : Int)), dv (.int .i64 ((k : Nat) : Int))], []⟩ _ _
  replace hk : k ≤ l.length := hk
  replace hb : ∀ j, j < k → ¬ s = l.getD j [] := hb
  refine T.seq ?_
  refine xR [] (by kernel_rfl) (by kernel_rfl) ?_
  refine nT ?_
  refine T.seq ?_
  by_cases hq1 : ((k : Nat) : Int) < ((l.length : Nat) : Int)
  · refine T.condT (by kernel_rfl) (decide_eq_true hq1) ?_
    refine T.skip ?_
    refine nT ?_
    refine T.seq ?_
    refine T.block ?_
    refine T.seq ?_
    refine xR [] (by kernel_rfl) (by kernel_rfl) ?_
    refine nT ?_
    refine T.seq ?_
    refine xR [hR 3 rfl rfl (q_index tl nl kStr l k (k := .i64) (i := ((k : Nat) : Int)) Try.underlying42 iat_9 rfl rfl (by omega) (lt_of rfl) trivial)] (by kernel_rfl) (by kernel_rfl) ?_
    refine nT ?_
    by_cases hq2 : s = (l.getD k [])
    · refine T.condT (by kernel_rfl) (decide_eq_true hq2) ?_
      refine T.seq ?_
      refine xR [] (by kernel_rfl) (by kernel_rfl) ?_
      refine nT ?_
      refine T.ret ?_
      refine rB ?_
      refine rT ?_
      refine rT ?_
      refine rB ?_
      refine rT ?_
      exact tE (.inl rfl) [.t 4 (.one (.d (.val (.int .i64 ((k : Nat) : Int)))))] ⟨⟨rfl, by kernel_rfl⟩, trivial⟩ [] (by have e1 : (idxS l s : Int) = ((k : Nat) : Int) := (by exact idx_at (k := k) (by omega) (by assumption) hb); have hE := congrArg (fun (q1 : Int) => (dv (.int .i64 q1) : AV)) e1; exact hE) rfl rfl rfl rfl rfl trivial
    · refine T.condF (by kernel_rfl) (decide_eq_false hq2) ?_
      refine T.skip ?_
      refine nB ?_
      refine nT ?_
      refine xR [hR 0 rfl rfl (r_bin (u1 := .int .i64 ((k : Nat) : Int)) (u2 := .int .i64 1) (v := .int .i64 ((k + 1 : Nat) : Int)) (b_add (by rw [IntKind.wrap_i64]; omega)) (lt_of rfl) ⟨rfl, trivial⟩)] (by kernel_rfl) (by kernel_rfl) ?_
      refine nL (k + 1) ⟨(show (k + 1) ≤ l.length from (by omega)), (show ∀ j, j < (k + 1) → ¬ s = l.getD j [] from (all_succ hb (by assumption)))⟩ (show (l.length - (k + 1) : Nat) < l.length - k from (by omega)) (fun _ _ hG => Gs.into2 (s' := ⟨[slV tl nl kStr l, dv (strV s), aa, aa, dv (.int .i64 0), aa, aa, dv (.int .i64 ((l.length : Nat) : Int)), dv (.int .i64 ((k + 1 : Nat) : Int))], []⟩) [] (bm 9 403) (t1 := [slV tl nl kStr l, dv (strV s), aa, aa, dv (.int .i64 0), aa, aa, dv (.int .i64 ((l.length : Nat) : Int)), dv (.int .i64 ((k + 1 : Nat) : Int))]) (h1 := []) rfl rfl (by kernel_rfl) (by kernel_rfl) (by kernel_rfl) (by kernel_rfl) (by kernel_rfl) (by kernel_rfl) (by kernel_rfl) (by kernel_rfl) (by kernel_rfl) (by kernel_rfl) (by kernel_rfl) hG)
  · refine T.condF (by kernel_rfl) (decide_eq_false hq1) ?_
    refine T.exit ?_
    refine xT ?_
    refine xT ?_
    refine xH ?_
    refine nT ?_
    refine T.seq ?_
    refine xR [] (by kernel_rfl) (by kernel_rfl) ?_
    refine nT ?_
    refine T.ret ?_
    exact tE (.inl rfl) [.t 4 (.one (.d (.val (.int .i64 (-1)))))] ⟨⟨rfl, by kernel_rfl⟩, trivial⟩ [] (by have e1 : (idxS l s : Int) = (-1) := (by exact idx_no (k := k) (by omega) hb); have hE := congrArg (fun (q1 : Int) => (dv (.int .i64 q1) : AV)) e1; exact hE) rfl rfl rfl rfl rfl trivial
end Go.Proofs.Ytlabmehgcfgigaa.Q
namespace Go.Proofs.Ytlabmehgcfgigaa.Q
open Go Go.RowKit
set_option linter.unusedVariables false
set_option linter.unusedSimpArgs false
set_option maxRecDepth 100000
set_option maxHeartbeats 4000000
-- slices.Contains[[]string,string]
theorem slices_ContainsS (tl : Bool) (nl : Bool) (l : List (List UInt8)) (s : List UInt8) (hl : l.length ≤ 9223372036854775807) : Holds Try.prog 60 ⟨[slV tl nl kStr l, dv (strV s)], [], dv (.bool (decide (s ∈ l))), []⟩ := by
  refine Holds.of Try.func60 rfl (N := 9) Try.ntmps60 rfl fun w0 B0 S0 U0 => ?_
  show T _ (mkBase 9 0 w0 S0 U0 B0) ⟨[slV tl nl kStr l, dv (strV s)], []⟩ _ _
  refine T.seq ?_
  refine xR [] (by kernel_rfl) (by kernel_rfl) ?_
  refine nT ?_
  refine T.seq ?_
  refine xR [hR 2 rfl rfl (r_call (slices_IndexS tl nl l s (by assumption)) Try.func88 rfl (by decide) [] [] (l := [(.tmp 5, slV tl nl kStr l), (.tmp 6, dv (strV s))]) [] rfl 0 0 rfl rfl rfl rfl rfl rfl rfl rfl rfl ⟨.inl ⟨rfl, rfl⟩, ⟨.inl ⟨rfl, rfl⟩, trivial⟩⟩ rfl (fun b hb => by cases hb) (.inl rfl) (lt_of rfl) trivial)] (by kernel_rfl) (by kernel_rfl) ?_
  refine nT ?_
  refine T.ret ?_
  exact tE (.inl rfl) [.t 4 (.one (.d (.val (.bool (decide ((idxS l s) ≥ 0))))))] ⟨⟨rfl, by kernel_rfl⟩, trivial⟩ [] (by have e1 : ((decide (s ∈ l)) : Bool) = (decide ((idxS l s) ≥ 0)) := (by exact decide_eq_decide.2 idx_ge.symm); have hE := congrArg (fun (q1 : Bool) => (dv (.bool q1) : AV)) e1; exact hE) rfl rfl rfl rfl rfl trivial
end Go.Proofs.Ytlabmehgcfgigaa.Q
namespace Go.Proofs.Ytlabmehgcfgigaa.Q
open Go Go.RowKit
set_option linter.unusedVariables false
set_option linter.unusedSimpArgs false
set_option maxRecDepth 100000
set_option maxHeartbeats 4000000
theorem fld_44_1 : FieldAt Try.prog 44 1 1 := ⟨_, _, _, Try.underlying44, rfl, iat_3, by decide, rfl⟩
theorem iat_42 : Try.prog.info? 42 = some Try.t42 := by kernel_rfl
theorem fld_44_2 : FieldAt Try.prog 44 2 2 := ⟨_, _, _, Try.underlying44, rfl, iat_42, by decide, rfl⟩
theorem wide_42 : Wide Try.prog 42 none := ⟨_, Try.underlying42, (fun _ h => by cases h), (fun _ _ h => by cases h)⟩
-- quaestor/value.Fits
theorem value_Fits (a : api_Value) (f : api_Field) (hl : f.f_Enum.length ≤ 1000) : Holds Try.prog 32 ⟨[.tv (.agg [.d (.val (.int .i64 a.f_Kind)), .d (.val (.int .i64 a.f_Int)), .d (.val (.bool a.f_Bool)), .d (.val (strV a.f_Text)), .d (.val (.float .f64 a.f_Num))]), .tv (.agg [.d (.val (strV f.f_Name)), .d (.val (.int .i64 f.f_Kind)), .d (dsl false false kStr f.f_Enum), .d (.val (.int .i64 f.f_Init.f_Kind)), .d (.val (.int .i64 f.f_Init.f_Int)), .d (.val (.bool f.f_Init.f_Bool)), .d (.val (strV f.f_Init.f_Text)), .d (.val (.float .f64 f.f_Init.f_Num))])], [], dv (.int .i64 (fitsE a f)), []⟩ := by
  refine Holds.of Try.func32 rfl (N := 34) Try.ntmps32 rfl fun w0 B0 S0 U0 => ?_
  show T _ (mkBase 34 0 w0 S0 U0 B0) ⟨[.tv (.agg [.d (.val (.int .i64 a.f_Kind)), .d (.val (.int .i64 a.f_Int)), .d (.val (.bool a.f_Bool)), .d (.val (strV a.f_Text)), .d (.val (.float .f64 a.f_Num))]), .tv (.agg [.d (.val (strV f.f_Name)), .d (.val (.int .i64 f.f_Kind)), .d (dsl false false kStr f.f_Enum), .d (.val (.int .i64 f.f_Init.f_Kind)), .d (.val (.int .i64 f.f_Init.f_Int)), .d (.val (.bool f.f_Init.f_Bool)), .d (.val (strV f.f_Init.f_Text)), .d (.val (.float .f64 f.f_Init.f_Num))])], []⟩ _ _
  refine T.seq ?_
  refine xR [] (by kernel_rfl) (by kernel_rfl) ?_
  refine nT ?_
  refine T.seq ?_
  refine T.block ?_
  refine T.seq ?_
  by_cases hq1 : goodV a
  · refine xR [hR 1 rfl rfl (r_call (value_Good a ) Try.func31 rfl (by decide) [] [] (l := [(.tmp 6, .tv (.agg [.d (.val (.int .i64 a.f_Kind)), .d (.val (.int .i64 a.f_Int)), .d (.val (.bool a.f_Bool)), .d (.val (strV a.f_Text)), .d (.val (.float .f64 a.f_Num))]))]) [] rfl 0 0 rfl rfl rfl rfl rfl rfl rfl rfl rfl ⟨⟨.inl ⟨rfl, rfl⟩, ⟨.inl ⟨rfl, rfl⟩, ⟨.inl ⟨rfl, rfl⟩, ⟨.inl ⟨rfl, rfl⟩, ⟨.inl ⟨rfl, rfl⟩, trivial⟩⟩⟩⟩⟩, trivial⟩ rfl (fun b hb => by cases hb) (.inl rfl) (lt_of rfl) trivial),
      hY 4 (congrArg Bool.not (decide_eq_true hq1)),
      hY 5 (congrArg Bool.not (decide_eq_true hq1)),
      hY 6 (congrArg Bool.not (decide_eq_true hq1)),
      hY 7 (congrArg Bool.not (decide_eq_true hq1)),
      hY 8 (congrArg Bool.not (decide_eq_true hq1)),
      hP 9 (congrArg Bool.not (decide_eq_true hq1))] (by kernel_rfl) (by kernel_rfl) ?_
    refine nT ?_
    by_cases hq2 : a.f_Kind ≠ f.f_Kind
    · refine T.condT (by kernel_rfl) (decide_eq_true hq2) ?_
      refine T.seq ?_
      refine xR [] (by kernel_rfl) (by kernel_rfl) ?_
      refine nT ?_
      refine T.ret ?_
      refine rB ?_
      refine rT ?_
      exact tE (.inl rfl) [.t 4 (.one (.d (.val (.int .i64 40))))] ⟨⟨rfl, by kernel_rfl⟩, trivial⟩ [] (by have e1 : (fitsE a f : Int) = 40 := (by (exact fits_type (fun h9 => by exact absurd h9.2 (by assumption)))); have hE := congrArg (fun (q1 : Int) => (dv (.int .i64 q1) : AV)) e1; exact hE) rfl rfl rfl rfl rfl trivial
    · refine T.condF (by kernel_rfl) (decide_eq_false hq2) ?_
      refine T.seq ?_
      by_cases hq3 : a.f_Kind = 3
      · by_cases hq4 : ((f.f_Enum.length : Nat) : Int) > 0
        · refine xR [hY 4 (decide_eq_true hq3),
            hY 5 (decide_eq_true hq3),
            hY 6 (decide_eq_true hq3),
            hY 7 (decide_eq_true hq3),
            hP 8 (decide_eq_true hq3),
            hY 10 (decide_eq_true hq4),
            hY 11 (decide_eq_true hq4),
            hY 12 (decide_eq_true hq4),
            hY 13 (decide_eq_true hq4),
            hS 14 (oY rfl rfl rfl rfl (lt_of rfl) (decide_eq_true hq4) (r_call (slices_ContainsS false false f.f_Enum a.f_Text (by omega)) Try.func60 rfl (by decide) [] [] (l := [(.tmp 28, slV false false kStr f.f_Enum), (.tmp 30, dv (strV a.f_Text))]) [] rfl 0 0 rfl rfl rfl rfl rfl rfl rfl rfl rfl ⟨.inl ⟨rfl, rfl⟩, ⟨.inl ⟨rfl, rfl⟩, trivial⟩⟩ rfl (fun b hb => by cases hb) (.inl rfl) (lt_of rfl) trivial)),
            hY 15 (decide_eq_true hq4),
            hP 16 (decide_eq_true hq4)] (by kernel_rfl) (by kernel_rfl) ?_
          refine nT ?_
          by_cases hq5 : a.f_Text ∈ f.f_Enum
          · refine T.condF (by kernel_rfl) (congrArg Bool.not (decide_eq_true hq5)) ?_
            refine T.skip ?_
            refine nB ?_
            refine nT ?_
            refine T.seq ?_
            refine xR [] (by kernel_rfl) (by kernel_rfl) ?_
            refine nT ?_
            refine T.ret ?_
            exact tE (.inl rfl) [.t 4 (.one (.d (.val (.int .i64 0))))] ⟨⟨rfl, by kernel_rfl⟩, trivial⟩ [] (by have e1 : (fitsE a f : Int) = 0 := (by (exact fits_yes ⟨by assumption, Classical.not_not.1 (by assumption)⟩ (fun h9 => by exact absurd (by assumption) h9.2.2))); have hE := congrArg (fun (q1 : Int) => (dv (.int .i64 q1) : AV)) e1; exact hE) rfl rfl rfl rfl rfl trivial
          · refine T.condT (by kernel_rfl) (congrArg Bool.not (decide_eq_false hq5)) ?_
            refine T.seq ?_
            refine xR [] (by kernel_rfl) (by kernel_rfl) ?_
            refine nT ?_
            refine T.ret ?_
            refine rB ?_
            refine rT ?_
            exact tE (.inl rfl) [.t 4 (.one (.d (.val (.int .i64 60))))] ⟨⟨rfl, by kernel_rfl⟩, trivial⟩ [] (by have e1 : (fitsE a f : Int) = 60 := (by (exact fits_no ⟨by assumption, Classical.not_not.1 (by assumption)⟩ ⟨by assumption, by omega, by assumption⟩)); have hE := congrArg (fun (q1 : Int) => (dv (.int .i64 q1) : AV)) e1; exact hE) rfl rfl rfl rfl rfl trivial
        · refine xR [hY 4 (decide_eq_true hq3),
            hY 5 (decide_eq_true hq3),
            hY 6 (decide_eq_true hq3),
            hY 7 (decide_eq_true hq3),
            hP 8 (decide_eq_true hq3),
            hN 10 true (decide_eq_false hq4),
            hN 11 true (decide_eq_false hq4),
            hN 12 true (decide_eq_false hq4),
            hN 13 true (decide_eq_false hq4),
            hN 14 true (decide_eq_false hq4),
            hN 15 true (decide_eq_false hq4),
            hP 16 (decide_eq_false hq4)] (by kernel_rfl) (by kernel_rfl) ?_
          refine nT ?_
          refine T.condF (b := false) (by kernel_rfl) rfl ?_
          refine T.skip ?_
          refine nB ?_
          refine nT ?_
          refine T.seq ?_
          refine xR [] (by kernel_rfl) (by kernel_rfl) ?_
          refine nT ?_
          refine T.ret ?_
          exact tE (.inl rfl) [.t 4 (.one (.d (.val (.int .i64 0))))] ⟨⟨rfl, by kernel_rfl⟩, trivial⟩ [] (by have e1 : (fitsE a f : Int) = 0 := (by (exact fits_yes ⟨by assumption, Classical.not_not.1 (by assumption)⟩ (fun h9 => by (have h8 := h9.2.1; omega)))); have hE := congrArg (fun (q1 : Int) => (dv (.int .i64 q1) : AV)) e1; exact hE) rfl rfl rfl rfl rfl trivial
      · refine xR [hN 4 true (decide_eq_false hq3),
          hN 5 true (decide_eq_false hq3),
          hN 6 true (decide_eq_false hq3),
          hN 7 true (decide_eq_false hq3),
          hP 8 (decide_eq_false hq3),
          hN 10 (b := false) true rfl,
          hN 11 (b := false) true rfl,
          hN 12 (b := false) true rfl,
          hN 13 (b := false) true rfl,
          hN 14 (b := false) true rfl,
          hN 15 (b := false) true rfl,
          hP 16 (b := false) (w := false) rfl] (by kernel_rfl) (by kernel_rfl) ?_
        refine nT ?_
        refine T.condF (b := false) (by kernel_rfl) rfl ?_
        refine T.skip ?_
        refine nB ?_
        refine nT ?_
        refine T.seq ?_
        refine xR [] (by kernel_rfl) (by kernel_rfl) ?_
        refine nT ?_
        refine T.ret ?_
        exact tE (.inl rfl) [.t 4 (.one (.d (.val (.int .i64 0))))] ⟨⟨rfl, by kernel_rfl⟩, trivial⟩ [] (by have e1 : (fitsE a f : Int) = 0 := (by (exact fits_yes ⟨by assumption, Classical.not_not.1 (by assumption)⟩ (fun h9 => by exact absurd h9.1 (by assumption)))); have hE := congrArg (fun (q1 : Int) => (dv (.int .i64 q1) : AV)) e1; exact hE) rfl rfl rfl rfl rfl trivial
  · refine xR [hR 1 rfl rfl (r_call (value_Good a ) Try.func31 rfl (by decide) [] [] (l := [(.tmp 6, .tv (.agg [.d (.val (.int .i64 a.f_Kind)), .d (.val (.int .i64 a.f_Int)), .d (.val (.bool a.f_Bool)), .d (.val (strV a.f_Text)), .d (.val (.float .f64 a.f_Num))]))]) [] rfl 0 0 rfl rfl rfl rfl rfl rfl rfl rfl rfl ⟨⟨.inl ⟨rfl, rfl⟩, ⟨.inl ⟨rfl, rfl⟩, ⟨.inl ⟨rfl, rfl⟩, ⟨.inl ⟨rfl, rfl⟩, ⟨.inl ⟨rfl, rfl⟩, trivial⟩⟩⟩⟩⟩, trivial⟩ rfl (fun b hb => by cases hb) (.inl rfl) (lt_of rfl) trivial),
      hN 4 false (congrArg Bool.not (decide_eq_false hq1)),
      hN 5 false (congrArg Bool.not (decide_eq_false hq1)),
      hN 6 false (congrArg Bool.not (decide_eq_false hq1)),
      hN 7 false (congrArg Bool.not (decide_eq_false hq1)),
      hN 8 false (congrArg Bool.not (decide_eq_false hq1)),
      hP 9 (congrArg Bool.not (decide_eq_false hq1))] (by kernel_rfl) (by kernel_rfl) ?_
    refine nT ?_
    refine T.condT (b := true) (by kernel_rfl) rfl ?_
    refine T.seq ?_
    refine xR [] (by kernel_rfl) (by kernel_rfl) ?_
    refine nT ?_
    refine T.ret ?_
    refine rB ?_
    refine rT ?_
    exact tE (.inl rfl) [.t 4 (.one (.d (.val (.int .i64 40))))] ⟨⟨rfl, by kernel_rfl⟩, trivial⟩ [] (by have e1 : (fitsE a f : Int) = 40 := (by (exact fits_type (fun h9 => by exact absurd h9.1 (by assumption)))); have hE := congrArg (fun (q1 : Int) => (dv (.int .i64 q1) : AV)) e1; exact hE) rfl rfl rfl rfl rfl trivial
end Go.Proofs.Ytlabmehgcfgigaa.Q
namespace Go.Proofs.Ytlabmehgcfgigaa.Q
open Go Go.RowKit
set_option linter.unusedVariables false
set_option linter.unusedSimpArgs false
set_option maxRecDepth 100000
set_option maxHeartbeats 4000000
-- quaestor/quaestorref04.Fits
theorem ref04_Fits (a : api_Value) (f : api_Field) (hl : f.f_Enum.length ≤ 1000) : Holds Try.prog 33 ⟨[.tv (.agg [.d (.val (.int .i64 a.f_Kind)), .d (.val (.int .i64 a.f_Int)), .d (.val (.bool a.f_Bool)), .d (.val (strV a.f_Text)), .d (.val (.float .f64 a.f_Num))]), .tv (.agg [.d (.val (strV f.f_Name)), .d (.val (.int .i64 f.f_Kind)), .d (dsl false false kStr f.f_Enum), .d (.val (.int .i64 f.f_Init.f_Kind)), .d (.val (.int .i64 f.f_Init.f_Int)), .d (.val (.bool f.f_Init.f_Bool)), .d (.val (strV f.f_Init.f_Text)), .d (.val (.float .f64 f.f_Init.f_Num))])], [], dv (.int .i64 (fitsE a f)), []⟩ := by
  refine Holds.of Try.func33 rfl (N := 40) Try.ntmps33 rfl fun w0 B0 S0 U0 => ?_
  show T _ (mkBase 40 0 w0 S0 U0 B0) ⟨[.tv (.agg [.d (.val (.int .i64 a.f_Kind)), .d (.val (.int .i64 a.f_Int)), .d (.val (.bool a.f_Bool)), .d (.val (strV a.f_Text)), .d (.val (.float .f64 a.f_Num))]), .tv (.agg [.d (.val (strV f.f_Name)), .d (.val (.int .i64 f.f_Kind)), .d (dsl false false kStr f.f_Enum), .d (.val (.int .i64 f.f_Init.f_Kind)), .d (.val (.int .i64 f.f_Init.f_Int)), .d (.val (.bool f.f_Init.f_Bool)), .d (.val (strV f.f_Init.f_Text)), .d (.val (.float .f64 f.f_Init.f_Num))])], []⟩ _ _
  refine T.seq ?_
  refine xR [] (by kernel_rfl) (by kernel_rfl) ?_
  refine nT ?_
  refine T.seq ?_
  refine T.seq ?_
  by_cases hq1 : goodV a
  · refine xR [hR 1 rfl rfl (r_call (ref04_Good a ) Try.func18 rfl (by decide) [] [] (l := [(.tmp 6, .tv (.agg [.d (.val (.int .i64 a.f_Kind)), .d (.val (.int .i64 a.f_Int)), .d (.val (.bool a.f_Bool)), .d (.val (strV a.f_Text)), .d (.val (.float .f64 a.f_Num))]))]) [] rfl 0 0 rfl rfl rfl rfl rfl rfl rfl rfl rfl ⟨⟨.inl ⟨rfl, rfl⟩, ⟨.inl ⟨rfl, rfl⟩, ⟨.inl ⟨rfl, rfl⟩, ⟨.inl ⟨rfl, rfl⟩, ⟨.inl ⟨rfl, rfl⟩, trivial⟩⟩⟩⟩⟩, trivial⟩ rfl (fun b hb => by cases hb) (.inl rfl) (lt_of rfl) trivial),
      hY 4 (congrArg Bool.not (decide_eq_true hq1)),
      hY 5 (congrArg Bool.not (decide_eq_true hq1)),
      hY 6 (congrArg Bool.not (decide_eq_true hq1)),
      hY 7 (congrArg Bool.not (decide_eq_true hq1)),
      hY 8 (congrArg Bool.not (decide_eq_true hq1)),
      hP 9 (congrArg Bool.not (decide_eq_true hq1))] (by kernel_rfl) (by kernel_rfl) ?_
    refine nT ?_
    by_cases hq2 : a.f_Kind ≠ f.f_Kind
    · refine T.condT (by kernel_rfl) (decide_eq_true hq2) ?_
      refine T.seq ?_
      refine xR [] (by kernel_rfl) (by kernel_rfl) ?_
      refine nT ?_
      refine T.ret ?_
      refine rT ?_
      exact tE (.inl rfl) [.t 4 (.one (.d (.val (.int .i64 40))))] ⟨⟨rfl, by kernel_rfl⟩, trivial⟩ [] (by have e1 : (fitsE a f : Int) = 40 := (by (exact fits_type (fun h9 => by exact absurd h9.2 (by assumption)))); have hE := congrArg (fun (q1 : Int) => (dv (.int .i64 q1) : AV)) e1; exact hE) rfl rfl rfl rfl rfl trivial
    · refine T.condF (by kernel_rfl) (decide_eq_false hq2) ?_
      refine T.skip ?_
      refine nT ?_
      refine T.seq ?_
      refine T.seq ?_
      by_cases hq3 : ((f.f_Enum.length : Nat) : Int) = 0
      · refine xR [hN 5 false (decide_eq_true hq3),
          hN 6 false (decide_eq_true hq3),
          hN 7 false (decide_eq_true hq3),
          hP 8 (decide_eq_true hq3)] (by kernel_rfl) (by kernel_rfl) ?_
        refine nT ?_
        refine T.condT (b := true) (by kernel_rfl) rfl ?_
        refine T.seq ?_
        refine xR [] (by kernel_rfl) (by kernel_rfl) ?_
        refine nT ?_
        refine T.ret ?_
        refine rT ?_
        exact tE (.inl rfl) [.t 4 (.one (.d (.val (.int .i64 0))))] ⟨⟨rfl, by kernel_rfl⟩, trivial⟩ [] (by have e1 : (fitsE a f : Int) = 0 := (by (exact fits_yes ⟨by assumption, Classical.not_not.1 (by assumption)⟩ (fun h9 => by (have h8 := h9.2.1; omega)))); have hE := congrArg (fun (q1 : Int) => (dv (.int .i64 q1) : AV)) e1; exact hE) rfl rfl rfl rfl rfl trivial
      · refine xR [hY 5 (decide_eq_false hq3),
          hY 6 (decide_eq_false hq3),
          hY 7 (decide_eq_false hq3),
          hP 8 (decide_eq_false hq3)] (by kernel_rfl) (by kernel_rfl) ?_
        refine nT ?_
        by_cases hq4 : a.f_Kind ≠ 3
        · refine T.condT (by kernel_rfl) (decide_eq_true hq4) ?_
          refine T.seq ?_
          refine xR [] (by kernel_rfl) (by kernel_rfl) ?_
          refine nT ?_
          refine T.ret ?_
          refine rT ?_
          exact tE (.inl rfl) [.t 4 (.one (.d (.val (.int .i64 0))))] ⟨⟨rfl, by kernel_rfl⟩, trivial⟩ [] (by have e1 : (fitsE a f : Int) = 0 := (by (exact fits_yes ⟨by assumption, Classical.not_not.1 (by assumption)⟩ (fun h9 => by exact absurd h9.1 (by assumption)))); have hE := congrArg (fun (q1 : Int) => (dv (.int .i64 q1) : AV)) e1; exact hE) rfl rfl rfl rfl rfl trivial
        · refine T.condF (by kernel_rfl) (decide_eq_false hq4) ?_
          refine T.skip ?_
          refine nT ?_
          refine T.seq ?_
          refine T.seq ?_
          refine xR [] (by kernel_rfl) (by kernel_rfl) ?_
          refine nT ?_
          refine T.block ?_
          refine T.loop (ι := Nat) (fun (k : Nat) => ⟨[.tv (.agg [.d (.val (.int .i64 a.f_Kind)), .d (.val (.int .i64 a.f_Int)), .d (.val (.bool a.f_Bool)), .d (.val (strV a.f_Text)), .d (.val (.float .f64 a.f_Num))]), .tv (.agg [.d (.val (strV f.f_Name)), .d (.val (.int .i64 f.f_Kind)), .d (dsl false false kStr f.f_Enum), .d (.val (.int .i64 f.f_Init.f_Kind)), .d (.val (.int .i64 f.f_Init.f_Int)), .d (.val (.bool f.f_Init.f_Bool)), .d (.val (strV f.f_Init.f_Text)), .d (.val (.float .f64 f.f_Init.f_Num))]), pv 0 0, pv 1 0, dv (.int .i64 0), dv (.int .i64 ((k : Nat) : Int)), aa, aa, aa, aa, aa, aa, aa, aa, aa, dv (.bool (decide (a.f_Kind ≠ f.f_Kind))), aa, aa, aa, aa, aa, aa, aa, aa, dv (.bool (decide (a.f_Kind ≠ 3)))], [.live (.box 24 [.d (.val (.int .i64 a.f_Kind)), .d (.val (.int .i64 a.f_Int)), .d (.val (.bool a.f_Bool)), .d (.val (strV a.f_Text)), .d (.val (.float .f64 a.f_Num))]), .live (.box 44 [.d (.val (strV f.f_Name)), .d (.val (.int .i64 f.f_Kind)), .d (dsl false false kStr f.f_Enum), .d (.val (.int .i64 f.f_Init.f_Kind)), .d (.val (.int .i64 f.f_Init.f_Int)), .d (.val (.bool f.f_Init.f_Bool)), .d (.val (strV f.f_Init.f_Text)), .d (.val (.float .f64 f.f_Init.f_Num))])]⟩) (fun (k : Nat) => (k ≤ f.f_Enum.length) ∧ (∀ j, j < k → ¬ f.f_Enum.getD j [] = a.f_Text)) (fun (k : Nat) => f.f_Enum.length - k) (0) ⟨(Nat.zero_le _), (fun j hj => absurd hj (Nat.not_lt_zero _))⟩ (fun _ _ hG => Gs.into2 (s' := ⟨[.tv (.agg [.d (.val (.int .i64 a.f_Kind)), .d (.val (.int .i64 a.f_Int)), .d (.val (.bool a.f_Bool)), .d (.val (strV a.f_Text)), .d (.val (.float .f64 a.f_Num))]), .tv (.agg [.d (.val (strV f.f_Name)), .d (.val (.int .i64 f.f_Kind)), .d (dsl false false kStr f.f_Enum), .d (.val (.int .i64 f.f_Init.f_Kind)), .d (.val (.int .i64 f.f_Init.f_Int)), .d (.val (.bool f.f_Init.f_Bool)), .d (.val (strV f.f_Init.f_Text)), .d (.val (.float .f64 f.f_Init.f_Num))]), pv 0 0, pv 1 0, dv (.int .i64 0), dv (.int .i64 0), aa, aa, aa, aa, aa, aa, aa, aa, aa, dv (.bool (decide (a.f_Kind ≠ f.f_Kind))), aa, aa, aa, aa, aa, aa, aa, aa, dv (.bool (decide (a.f_Kind ≠ 3)))], [.live (.box 24 [.d (.val (.int .i64 a.f_Kind)), .d (.val (.int .i64 a.f_Int)), .d (.val (.bool a.f_Bool)), .d (.val (strV a.f_Text)), .d (.val (.float .f64 a.f_Num))]), .live (.box 44 [.d (.val (strV f.f_Name)), .d (.val (.int .i64 f.f_Kind)), .d (dsl false false kStr f.f_Enum), .d (.val (.int .i64 f.f_Init.f_Kind)), .d (.val (.int .i64 f.f_Init.f_Int)), .d (.val (.bool f.f_Init.f_Bool)), .d (.val (strV f.f_Init.f_Text)), .d (.val (.float .f64 f.f_Init.f_Num))])]⟩) [0, 1] (bm 25 16810047) (t1 := [.tv (.agg [.d (.val (.int .i64 a.f_Kind)), .d (.val (.int .i64 a.f_Int)), .d (.val (.bool a.f_Bool)), .d (.val (strV a.f_Text)), .d (.val (.float .f64 a.f_Num))]), .tv (.agg [.d (.val (strV f.f_Name)), .d (.val (.int .i64 f.f_Kind)), .d (dsl false false kStr f.f_Enum), .d (.val (.int .i64 f.f_Init.f_Kind)), .d (.val (.int .i64 f.f_Init.f_Int)), .d (.val (.bool f.f_Init.f_Bool)), .d (.val (strV f.f_Init.f_Text)), .d (.val (.float .f64 f.f_Init.f_Num))]), pv 0 0, pv 1 0, dv (.int .i64 0), dv (.int .i64 0), aa, aa, aa, aa, aa, aa, aa, aa, aa, dv (.bool (decide (a.f_Kind ≠ f.f_Kind))), aa, aa, aa, aa, aa, aa, aa, aa, dv (.bool (decide (a.f_Kind ≠ 3)))]) (h1 := [.live (.box 24 [.d (.val (.int .i64 a.f_Kind)), .d (.val (.int .i64 a.f_Int)), .d (.val (.bool a.f_Bool)), .d (.val (strV a.f_Text)), .d (.val (.float .f64 a.f_Num))]), .live (.box 44 [.d (.val (strV f.f_Name)), .d (.val (.int .i64 f.f_Kind)), .d (dsl false false kStr f.f_Enum), .d (.val (.int .i64 f.f_Init.f_Kind)), .d (.val (.int .i64 f.f_Init.f_Int)), .d (.val (.bool f.f_Init.f_Bool)), .d (.val (strV f.f_Init.f_Text)), .d (.val (.float .f64 f.f_Init.f_Num))])]) rfl rfl (by kernel_rfl) (by kernel_rfl) (by kernel_rfl) (by kernel_rfl) (by kernel_rfl) (by kernel_rfl) (by kernel_rfl) (by kernel_rfl) (by kernel_rfl) (by kernel_rfl) (by kernel_rfl) hG) ?_
          rintro k ⟨hk, hb⟩
          show T _ _ ⟨[.tv (.agg [.d (.val (.int .i64 a.f_Kind)), .d (.val (.int .i64 a.f_Int)), .d (.val (.bool a.f_Bool)), .d (.val (strV a.f_Text)), .d (.val (.float .f64 a.f_Num))]), .tv (.agg [.d (.val (strV f.f_Name)), .d (.val (.int .i64 f.f_Kind)), .d (dsl false false kStr f.f_Enum), .d (.val (.int .i64 f.f_Init.f_Kind)), .d (.val (.int .i64 f.f_Init.f_Int)), .d (.val (.bool f.f_Init.f_Bool)), .d (.val (strV f.f_Init.f_Text)), .d (.val (.float .f64 f.f_Init.f_Num))]), pv 0 0, pv 1 0, dv (.int .i64 0), dv (.int .i64 ((k : Nat) : Int)), aa, aa, aa, aa, aa, aa, aa, aa, aa, dv (.bool (decide (a.f_Kind ≠ f.f_Kind))), aa, aa, aa, aa, aa, aa, aa, aa, dv (.bool (decide (a.f_Kind ≠ 3)))], [.live (.box 24 [.d (.val (.int .i64 a.f_Kind)), .d (.val (.int .i64 a.f_Int)), .d (.val (.bool a.f_Bool)), .d (.val (strV a.f_Text)), .d (.val (.float .f64 a.f_Num))]), .live (.box 44 [.d (.val (strV f.f_Name)), .d (.val (.int .i64 f.f_Kind)), .d (dsl false false kStr f.f_Enum), .d (.val (.int .i64 f.f_Init.f_Kind)), .d (.val (.int .i64 f.f_Init.f_Int)), .d (.val (.bool f.f_Init.f_Bool)), .d (.val (strV f.f_Init.f_Text)), .d (.val (.float .f64 f.f_Init.f_Num))])]⟩ _ _
          replace hk : k ≤ f.f_Enum.length := hk
          replace hb : ∀ j, j < k → ¬ f.f_Enum.getD j [] = a.f_Text := hb
          refine T.seq ?_
          refine T.seq ?_
          refine xR [] (by kernel_rfl) (by kernel_rfl) ?_
          refine nT ?_
          by_cases hq5 : ((k : Nat) : Int) < ((f.f_Enum.length : Nat) : Int)
          · refine T.condT (by kernel_rfl) (decide_eq_true hq5) ?_
            refine T.skip ?_
            refine nT ?_
            refine T.seq ?_
            refine T.block ?_
            refine T.seq ?_
            refine xD [[], [0], [], [0, 1, 2], [0, 1, 2, 3], [], [5], [0, 1, 2, 3, 4, 5, 6]] [hR 3 rfl rfl (q_index false false kStr f.f_Enum k (k := .i64) (i := ((k : Nat) : Int)) Try.underlying42 iat_9 rfl rfl (by omega) (lt_of rfl) trivial)] (by kernel_rfl) (by kernel_rfl) (by kernel_rfl) (by kernel_rfl) (by kernel_rfl) (by kernel_rfl) ?_
            refine nT ?_
            by_cases hq6 : (f.f_Enum.getD k []) = a.f_Text
            · refine T.condT (by kernel_rfl) (decide_eq_true hq6) ?_
              refine T.seq ?_
              refine xR [] (by kernel_rfl) (by kernel_rfl) ?_
              refine nT ?_
              refine T.ret ?_
              refine rB ?_
              refine rT ?_
              refine rT ?_
              refine rB ?_
              refine rT ?_
              exact tE (.inl rfl) [.t 4 (.one (.d (.val (.int .i64 0))))] ⟨⟨rfl, by kernel_rfl⟩, trivial⟩ [] (by have e1 : (fitsE a f : Int) = 0 := (by (exact fits_yes ⟨by assumption, Classical.not_not.1 (by assumption)⟩ (fun h9 => by exact h9.2.2 (mem_get (z := []) (k := k) (by omega) (by assumption))))); have hE := congrArg (fun (q1 : Int) => (dv (.int .i64 q1) : AV)) e1; exact hE) rfl rfl rfl rfl rfl trivial
            · refine T.condF (by kernel_rfl) (decide_eq_false hq6) ?_
              refine T.skip ?_
              refine nB ?_
              refine nT ?_
              refine xR [hR 1 rfl rfl (r_bin (u1 := .int .i64 ((k : Nat) : Int)) (u2 := .int .i64 1) (v := .int .i64 ((k + 1 : Nat) : Int)) (b_add (by rw [IntKind.wrap_i64]; omega)) (lt_of rfl) ⟨rfl, trivial⟩)] (by kernel_rfl) (by kernel_rfl) ?_
              refine nL (k + 1) ⟨(show (k + 1) ≤ f.f_Enum.length from (by omega)), (show ∀ j, j < (k + 1) → ¬ f.f_Enum.getD j [] = a.f_Text from (all_succ hb (by assumption)))⟩ (show (f.f_Enum.length - (k + 1) : Nat) < f.f_Enum.length - k from (by omega)) (fun _ _ hG => Gs.into2 (s' := ⟨[.tv (.agg [.d (.val (.int .i64 a.f_Kind)), .d (.val (.int .i64 a.f_Int)), .d (.val (.bool a.f_Bool)), .d (.val (strV a.f_Text)), .d (.val (.float .f64 a.f_Num))]), .tv (.agg [.d (.val (strV f.f_Name)), .d (.val (.int .i64 f.f_Kind)), .d (dsl false false kStr f.f_Enum), .d (.val (.int .i64 f.f_Init.f_Kind)), .d (.val (.int .i64 f.f_Init.f_Int)), .d (.val (.bool f.f_Init.f_Bool)), .d (.val (strV f.f_Init.f_Text)), .d (.val (.float .f64 f.f_Init.f_Num))]), pv 0 0, pv 1 0, dv (.int .i64 0), dv (.int .i64 ((k + 1 : Nat) : Int)), aa, aa, aa, aa, aa, aa, aa, aa, aa, dv (.bool (decide (a.f_Kind ≠ f.f_Kind))), aa, aa, aa, aa, aa, aa, aa, aa, dv (.bool (decide (a.f_Kind ≠ 3)))], [.live (.box 24 [.d (.val (.int .i64 a.f_Kind)), .d (.val (.int .i64 a.f_Int)), .d (.val (.bool a.f_Bool)), .d (.val (strV a.f_Text)), .d (.val (.float .f64 a.f_Num))]), .live (.box 44 [.d (.val (strV f.f_Name)), .d (.val (.int .i64 f.f_Kind)), .d (dsl false false kStr f.f_Enum), .d (.val (.int .i64 f.f_Init.f_Kind)), .d (.val (.int .i64 f.f_Init.f_Int)), .d (.val (.bool f.f_Init.f_Bool)), .d (.val (strV f.f_Init.f_Text)), .d (.val (.float .f64 f.f_Init.f_Num))])]⟩) [0, 1] (bm 25 16810047) (t1 := [.tv (.agg [.d (.val (.int .i64 a.f_Kind)), .d (.val (.int .i64 a.f_Int)), .d (.val (.bool a.f_Bool)), .d (.val (strV a.f_Text)), .d (.val (.float .f64 a.f_Num))]), .tv (.agg [.d (.val (strV f.f_Name)), .d (.val (.int .i64 f.f_Kind)), .d (dsl false false kStr f.f_Enum), .d (.val (.int .i64 f.f_Init.f_Kind)), .d (.val (.int .i64 f.f_Init.f_Int)), .d (.val (.bool f.f_Init.f_Bool)), .d (.val (strV f.f_Init.f_Text)), .d (.val (.float .f64 f.f_Init.f_Num))]), pv 0 0, pv 1 0, dv (.int .i64 0), dv (.int .i64 ((k + 1 : Nat) : Int)), aa, aa, aa, aa, aa, aa, aa, aa, aa, dv (.bool (decide (a.f_Kind ≠ f.f_Kind))), aa, aa, aa, aa, aa, aa, aa, aa, dv (.bool (decide (a.f_Kind ≠ 3)))]) (h1 := [.live (.box 24 [.d (.val (.int .i64 a.f_Kind)), .d (.val (.int .i64 a.f_Int)), .d (.val (.bool a.f_Bool)), .d (.val (strV a.f_Text)), .d (.val (.float .f64 a.f_Num))]), .live (.box 44 [.d (.val (strV f.f_Name)), .d (.val (.int .i64 f.f_Kind)), .d (dsl false false kStr f.f_Enum), .d (.val (.int .i64 f.f_Init.f_Kind)), .d (.val (.int .i64 f.f_Init.f_Int)), .d (.val (.bool f.f_Init.f_Bool)), .d (.val (strV f.f_Init.f_Text)), .d (.val (.float .f64 f.f_Init.f_Num))])]) rfl rfl (by kernel_rfl) (by kernel_rfl) (by kernel_rfl) (by kernel_rfl) (by kernel_rfl) (by kernel_rfl) (by kernel_rfl) (by kernel_rfl) (by kernel_rfl) (by kernel_rfl) (by kernel_rfl) hG)
          · refine T.condF (by kernel_rfl) (decide_eq_false hq5) ?_
            refine T.exit ?_
            refine xT ?_
            refine xT ?_
            refine xH ?_
            refine nT ?_
            refine T.seq ?_
            refine xR [] (by kernel_rfl) (by kernel_rfl) ?_
            refine nT ?_
            refine T.ret ?_
            exact tE (.inl rfl) [.t 4 (.one (.d (.val (.int .i64 60))))] ⟨⟨rfl, by kernel_rfl⟩, trivial⟩ [] (by have e1 : (fitsE a f : Int) = 60 := (by (exact fits_no ⟨by assumption, Classical.not_not.1 (by assumption)⟩ ⟨by exact Classical.not_not.1 (by assumption), by omega, by exact not_mem_get (z := []) (k := k) (by omega) hb⟩)); have hE := congrArg (fun (q1 : Int) => (dv (.int .i64 q1) : AV)) e1; exact hE) rfl rfl rfl rfl rfl trivial
  · refine xR [hR 1 rfl rfl (r_call (ref04_Good a ) Try.func18 rfl (by decide) [] [] (l := [(.tmp 6, .tv (.agg [.d (.val (.int .i64 a.f_Kind)), .d (.val (.int .i64 a.f_Int)), .d (.val (.bool a.f_Bool)), .d (.val (strV a.f_Text)), .d (.val (.float .f64 a.f_Num))]))]) [] rfl 0 0 rfl rfl rfl rfl rfl rfl rfl rfl rfl ⟨⟨.inl ⟨rfl, rfl⟩, ⟨.inl ⟨rfl, rfl⟩, ⟨.inl ⟨rfl, rfl⟩, ⟨.inl ⟨rfl, rfl⟩, ⟨.inl ⟨rfl, rfl⟩, trivial⟩⟩⟩⟩⟩, trivial⟩ rfl (fun b hb => by cases hb) (.inl rfl) (lt_of rfl) trivial),
      hN 4 false (congrArg Bool.not (decide_eq_false hq1)),
      hN 5 false (congrArg Bool.not (decide_eq_false hq1)),
      hN 6 false (congrArg Bool.not (decide_eq_false hq1)),
      hN 7 false (congrArg Bool.not (decide_eq_false hq1)),
      hN 8 false (congrArg Bool.not (decide_eq_false hq1)),
      hP 9 (congrArg Bool.not (decide_eq_false hq1))] (by kernel_rfl) (by kernel_rfl) ?_
    refine nT ?_
    refine T.condT (b := true) (by kernel_rfl) rfl ?_
    refine T.seq ?_
    refine xR [] (by kernel_rfl) (by kernel_rfl) ?_
    refine nT ?_
    refine T.ret ?_
    refine rT ?_
    exact tE (.inl rfl) [.t 4 (.one (.d (.val (.int .i64 40))))] ⟨⟨rfl, by kernel_rfl⟩, trivial⟩ [] (by have e1 : (fitsE a f : Int) = 40 := (by (exact fits_type (fun h9 => by exact absurd h9.1 (by assumption)))); have hE := congrArg (fun (q1 : Int) => (dv (.int .i64 q1) : AV)) e1; exact hE) rfl rfl rfl rfl rfl trivial
end Go.Proofs.Ytlabmehgcfgigaa.Q
