import Derived.Test.YtlabmehgcfgigaaC04n32
namespace Go.Proofs.Ytlabmehgcfgigaa.Q
open Go Go.RowKit
set_option linter.unusedVariables false
set_option linter.unusedSimpArgs false
set_option maxRecDepth 100000
set_option maxHeartbeats 4000000
section
variable (op : Int) (a : api_Value) (b : api_Value)
abbrev Z59 : TV := .agg [dI a.f_Kind, dI a.f_Int, dB a.f_Bool, dS a.f_Text, .d (.val (.float .f64 a.f_Num))]
abbrev Z5a : AV := .tv ((Z59 a))
abbrev Z5b : TV := .agg [dI b.f_Kind, dI b.f_Int, dB b.f_Bool, dS b.f_Text, .d (.val (.float .f64 b.f_Num))]
abbrev Z5c : AV := .tv (.agg [dI (rkFV op a b).f_Kind, dI (rkFV op a b).f_Int, dB (rkFV op a b).f_Bool, dS (rkFV op a b).f_Text, .d (.val (.float .f64 (rkFV op a b).f_Num))])
abbrev Z5d : AV := .tv (.agg [dI (ngV a).f_Kind, dI (ngV a).f_Int, dB (ngV a).f_Bool, dS (ngV a).f_Text, .d (.val (.float .f64 (ngV a).f_Num))])
abbrev Z5e : AV := .tv (.agg [dI (flV a).f_Kind, dI (flV a).f_Int, dB (flV a).f_Bool, dS (flV a).f_Text, .d (.val (.float .f64 (flV a).f_Num))])
abbrev Z5f : TV := .one (dB true)
abbrev Z5g : AV := .tv (.agg [dI (reckV op a b).f_Kind, dI (reckV op a b).f_Int, dB (reckV op a b).f_Bool, dS (reckV op a b).f_Text, .d (.val (.float .f64 (reckV op a b).f_Num))])
end
theorem law_ValueReckons (op : Int) (a : api_Value) (b : api_Value) (ha : a.f_Num < 18446744073709551616) (hb : b.f_Num < 18446744073709551616) (hai : inR a.f_Int) (hbi : inR b.f_Int) : Holds Try.prog 6 ⟨[vI op, .tv (.agg [dI a.f_Kind, dI a.f_Int, dB a.f_Bool, dS a.f_Text, .d (.val (.float .f64 a.f_Num))]), .tv (.agg [dI b.f_Kind, dI b.f_Int, dB b.f_Bool, dS b.f_Text, .d (.val (.float .f64 b.f_Num))])], [], vB true, []⟩ := by
 refine Holds.of Try.func6 rfl (N := 89) Try.ntmps6 rfl fun w0 B0 S0 U0 => ?_
 show T _ (mkBase 89 0 w0 S0 U0 B0) ⟨[vI op, (Z5a a), .tv ((Z5b b))], []⟩ _ _
 refine sR [] ?_
 refine T.seq ?_
 refine sR [hR 2 rfl rfl (q_buildSlice 2 24 (k_api_Value false) (k_api_Value_ok false) [a, b] [⟨0, .tmp 19, (Z59 a), 0⟩, ⟨1, .tmp 20, (Z5b b), 5⟩] (cs := [dI a.f_Kind, dI a.f_Int, dB a.f_Bool, dS a.f_Text, .d (.val (.float .f64 a.f_Num)), dI b.f_Kind, dI b.f_Int, dB b.f_Bool, dS b.f_Text, .d (.val (.float .f64 b.f_Num))]) Try.underlying59 iat_24 rfl zero_24 rfl rfl rfl (Nat.le_of_ble_eq_true rfl) (part_cons rfl rfl (Nat.le_of_ble_eq_true rfl) (part_cons rfl rfl (Nat.le_of_ble_eq_true rfl) part_ok)) (by kernel_rfl) (wk_eq (by kernel_rfl)) (lt_of rfl) trivial),
   hR 3 rfl rfl (r_call (law_short true false [a, b] (by first | assumption | omega | (unfold maxLen; omega) | (simp [maxLen, -List.getD_eq_getElem?_getD] <;> omega) | decide)) Try.func12 rfl (by decide) [] [2] (l := [(.tmp 21, ownV 2 (k_api_Value false) 0 [a, b].length)]) [(2, .live (arrK 24 (k_api_Value false) [a, b]))] rfl 0 0 rfl rfl rfl rfl rfl rfl rfl rfl rfl ⟨.inr (.inl ⟨rfl, (fun h => by cases h), rfl, rfl, by simp, 24, [a, b].length, elOf (k_api_Value false) [a, b], List.Mem.head _, (by first | exact Nat.le_of_eq (Nat.zero_add _) | omega), fun i j => by rw [Nat.zero_add]⟩), trivial⟩ rfl (by intro b hb; simp only [List.mem_cons, List.not_mem_nil, or_false] at hb; rcases hb with rfl; exact ⟨_, List.Mem.head _⟩) (.inr ⟨trivial, trivial⟩) (lt_of rfl) trivial)] ?_
 by_cases hq1 : shortL [a, b]
 ·refine cF (cn (dT hq1)) ?_
  refine T.skip (nT ?_)
  by_cases hq2 : bothV a b ∧ a.f_Kind = 4
  ·refine sR [hR 3 rfl rfl (rCa (value_ReckonF op a b (by first | assumption | omega | (unfold maxLen; omega) | (simp [maxLen, -List.getD_eq_getElem?_getD] <;> omega) | decide) (by first | assumption | omega | (unfold maxLen; omega) | (simp [maxLen, -List.getD_eq_getElem?_getD] <;> omega) | decide) (by first | assumption | omega | (unfold maxLen; omega) | (simp [maxLen, -List.getD_eq_getElem?_getD] <;> omega) | decide)) Try.func20 [] [(.tmp 25, vI op), (.tmp 26, (Z5a a)), (.tmp 27, .tv ((Z5b b)))] 0 0)] ?_
   refine sR [hR 3 rfl rfl (rCa (ref04_ReckonF op a b (by first | assumption | omega | (unfold maxLen; omega) | (simp [maxLen, -List.getD_eq_getElem?_getD] <;> omega) | decide) (by first | assumption | omega | (unfold maxLen; omega) | (simp [maxLen, -List.getD_eq_getElem?_getD] <;> omega) | decide) (by first | assumption | omega | (unfold maxLen; omega) | (simp [maxLen, -List.getD_eq_getElem?_getD] <;> omega) | decide)) Try.func21 [] [(.tmp 32, vI op), (.tmp 33, (Z5a a)), (.tmp 34, .tv ((Z5b b)))] 0 0)] ?_
   refine sR [hR 1 rfl rfl (rCa (value_Neg a (by first | assumption | omega | (unfold maxLen; omega) | (simp [maxLen, -List.getD_eq_getElem?_getD] <;> omega) | decide)) Try.func22 [] [(.tmp 39, (Z5a a))] 0 0)] ?_
   refine sR [hR 1 rfl rfl (rCa (ref04_Neg a (by first | assumption | omega | (unfold maxLen; omega) | (simp [maxLen, -List.getD_eq_getElem?_getD] <;> omega) | decide)) Try.func23 [] [(.tmp 44, (Z5a a))] 0 0)] ?_
   refine sR [hR 1 rfl rfl (rCa (value_Float a ) Try.func24 [] [(.tmp 49, (Z5a a))] 0 0)] ?_
   refine sR [hR 1 rfl rfl (rCa (ref04_Float a ) Try.func25 [] [(.tmp 54, (Z5a a))] 0 0)] ?_
   by_cases hq3 : sameV (rkFV op a b) (rkFV op a b)
   ·by_cases hq4 : sameV (ngV a) (ngV a)
    ·by_cases hq5 : sameV (flV a) (flV a)
     ·refine sR [hR 2 rfl rfl (rCa (ref04_Same (rkFV op a b) (rkFV op a b) ) Try.func16 [] [(.tmp 58, (Z5c op a b)), (.tmp 59, (Z5c op a b))] 0 0),
        hY 4 (dT hq3),
        hY 5 (dT hq3),
        hY 6 (dT hq3),
        hP 7 (dT hq3),
        hY 9 (show decide ((rkFE op) = (rkFE op)) = true from dT (Eq.refl _)),
        hY 10 (show decide ((rkFE op) = (rkFE op)) = true from dT (Eq.refl _)),
        hS 11 (oY rfl rfl rfl rfl (lt_of rfl) (show decide ((rkFE op) = (rkFE op)) = true from dT (Eq.refl _)) (rCa (ref04_Same (ngV a) (ngV a) ) Try.func16 [] [(.tmp 67, (Z5d a)), (.tmp 68, (Z5d a))] 0 0)),
        hP 12 (show decide ((rkFE op) = (rkFE op)) = true from dT (Eq.refl _)),
        hY 14 (dT hq4),
        hY 15 (dT hq4),
        hY 16 (dT hq4),
        hP 17 (dT hq4),
        hY 19 (show decide ((ngE a) = (ngE a)) = true from dT (Eq.refl _)),
        hY 20 (show decide ((ngE a) = (ngE a)) = true from dT (Eq.refl _)),
        hS 21 (oY rfl rfl rfl rfl (lt_of rfl) (show decide ((ngE a) = (ngE a)) = true from dT (Eq.refl _)) (rCa (ref04_Same (flV a) (flV a) ) Try.func16 [] [(.tmp 77, (Z5e a)), (.tmp 78, (Z5e a))] 0 0)),
        hP 22 (show decide ((ngE a) = (ngE a)) = true from dT (Eq.refl _)),
        hY 24 (dT hq5),
        hY 25 (dT hq5),
        hY 26 (dT hq5),
        hP 27 (dT hq5),
        hS 29 (oY rfl rfl rfl rfl (lt_of rfl) (show decide ((flE a) = (flE a)) = true from dT (Eq.refl _)) (rCa (law_awake  ) Try.func17 [] [] 0 0)),
        hP 30 (show decide ((flE a) = (flE a)) = true from dT (Eq.refl _))] ?_
      refine T.ret ?_
      exact eRt 6 (Z5f) [] rfl trivial
     exact absurd ⟨rfl, rfl, rfl, rfl, rfl⟩ hq5
    exact absurd ⟨rfl, rfl, rfl, rfl, rfl⟩ hq4
   exact absurd ⟨rfl, rfl, rfl, rfl, rfl⟩ hq3
  refine sR [hR 3 rfl rfl (rCa (value_ReckonI op a b (by first | assumption | (intro h9; exact absurd h9.2 (by decide))) (by first | assumption | decide) (by first | assumption | decide)) Try.func20 [] [(.tmp 25, vI op), (.tmp 26, (Z5a a)), (.tmp 27, .tv ((Z5b b)))] 0 0)] ?_
  refine sR [hR 3 rfl rfl (rCa (ref04_ReckonI op a b (by first | assumption | omega | (unfold maxLen; omega) | (simp [maxLen, -List.getD_eq_getElem?_getD] <;> omega) | decide) (by first | assumption | omega | (unfold maxLen; omega) | (simp [maxLen, -List.getD_eq_getElem?_getD] <;> omega) | decide) (by first | assumption | omega | (unfold maxLen; omega) | (simp [maxLen, -List.getD_eq_getElem?_getD] <;> omega) | decide)) Try.func21 [] [(.tmp 32, vI op), (.tmp 33, (Z5a a)), (.tmp 34, .tv ((Z5b b)))] 0 0)] ?_
  refine sR [hR 1 rfl rfl (rCa (value_Neg a (by first | assumption | omega | (unfold maxLen; omega) | (simp [maxLen, -List.getD_eq_getElem?_getD] <;> omega) | decide)) Try.func22 [] [(.tmp 39, (Z5a a))] 0 0)] ?_
  refine sR [hR 1 rfl rfl (rCa (ref04_Neg a (by first | assumption | omega | (unfold maxLen; omega) | (simp [maxLen, -List.getD_eq_getElem?_getD] <;> omega) | decide)) Try.func23 [] [(.tmp 44, (Z5a a))] 0 0)] ?_
  refine sR [hR 1 rfl rfl (rCa (value_Float a ) Try.func24 [] [(.tmp 49, (Z5a a))] 0 0)] ?_
  refine sR [hR 1 rfl rfl (rCa (ref04_Float a ) Try.func25 [] [(.tmp 54, (Z5a a))] 0 0)] ?_
  by_cases hq6 : sameV (reckV op a b) (reckV op a b)
  ·by_cases hq7 : sameV (ngV a) (ngV a)
   ·by_cases hq8 : sameV (flV a) (flV a)
    ·refine sR [hR 2 rfl rfl (rCa (ref04_Same (reckV op a b) (reckV op a b) ) Try.func16 [] [(.tmp 58, (Z5g op a b)), (.tmp 59, (Z5g op a b))] 0 0),
       hY 4 (dT hq6),
       hY 5 (dT hq6),
       hY 6 (dT hq6),
       hP 7 (dT hq6),
       hY 9 (show decide ((reckE op a b) = (reckE op a b)) = true from dT (Eq.refl _)),
       hY 10 (show decide ((reckE op a b) = (reckE op a b)) = true from dT (Eq.refl _)),
       hS 11 (oY rfl rfl rfl rfl (lt_of rfl) (show decide ((reckE op a b) = (reckE op a b)) = true from dT (Eq.refl _)) (rCa (ref04_Same (ngV a) (ngV a) ) Try.func16 [] [(.tmp 67, (Z5d a)), (.tmp 68, (Z5d a))] 0 0)),
       hP 12 (show decide ((reckE op a b) = (reckE op a b)) = true from dT (Eq.refl _)),
       hY 14 (dT hq7),
       hY 15 (dT hq7),
       hY 16 (dT hq7),
       hP 17 (dT hq7),
       hY 19 (show decide ((ngE a) = (ngE a)) = true from dT (Eq.refl _)),
       hY 20 (show decide ((ngE a) = (ngE a)) = true from dT (Eq.refl _)),
       hS 21 (oY rfl rfl rfl rfl (lt_of rfl) (show decide ((ngE a) = (ngE a)) = true from dT (Eq.refl _)) (rCa (ref04_Same (flV a) (flV a) ) Try.func16 [] [(.tmp 77, (Z5e a)), (.tmp 78, (Z5e a))] 0 0)),
       hP 22 (show decide ((ngE a) = (ngE a)) = true from dT (Eq.refl _)),
       hY 24 (dT hq8),
       hY 25 (dT hq8),
       hY 26 (dT hq8),
       hP 27 (dT hq8),
       hS 29 (oY rfl rfl rfl rfl (lt_of rfl) (show decide ((flE a) = (flE a)) = true from dT (Eq.refl _)) (rCa (law_awake  ) Try.func17 [] [] 0 0)),
       hP 30 (show decide ((flE a) = (flE a)) = true from dT (Eq.refl _))] ?_
     refine T.ret ?_
     exact eRt 6 (Z5f) [] rfl trivial
    exact absurd ⟨rfl, rfl, rfl, rfl, rfl⟩ hq8
   exact absurd ⟨rfl, rfl, rfl, rfl, rfl⟩ hq7
  exact absurd ⟨rfl, rfl, rfl, rfl, rfl⟩ hq6
 refine cT (cn (dF hq1)) ?_
 refine sR [] ?_
 refine T.ret (rT ?_)
 exact eRt 6 (Z5f) [] rfl trivial
end Go.Proofs.Ytlabmehgcfgigaa.Q
