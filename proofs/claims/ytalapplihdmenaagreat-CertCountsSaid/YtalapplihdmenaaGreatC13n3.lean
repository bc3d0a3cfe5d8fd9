import Derived.Test.YtalapplihdmenaaGreatC13n2
namespace Go.Proofs.YtalapplihdmenaaGreat.Q
open Go Go.RowKit
set_option linter.unusedVariables false
set_option linter.unusedSimpArgs false
set_option maxRecDepth 100000
set_option maxHeartbeats 4000000
theorem elem_36 : Elem Tryz.prog 36 35 2 32 := ⟨Tryz.underlying36, _, _, iat_35, rfl, rfl, rfl, rfl, by decide⟩
section
variable (f : Int) (u : Int) (l : List aE) (s : Int) (tb : Bool) (nb : Bool) (b : List UInt8)
abbrev Zg : HS := .live (.box 75 [dB true, dI f, dI u, .own 1 (kE false).sz 0 l.length])
abbrev Zh : HObj := arrK 35 (kE false) l
abbrev Zi : HS := .live ((Zh l))
abbrev Zj : AV := vB (!(decide (isKnown f u s)))
abbrev Zk : AV := vB (decide (((b.length : Nat) : Int) > 16777216))
abbrev Zl : List AV := [pv 0 0, vI s, slV tb nb kU8 b, aa, aa, aa, pv 2 0, vI 11, aa, aa, aa, aa, (Zj f u s), aa, aa, aa, (Zk b)]
abbrev Zm : HS := .live (.box 35 [dI 0, .d (.val (.slice none 0 0))])
abbrev Zn : HS := .live (.box 75 [dB true, dI f, dI u, .own 3 (kE false).sz 0 l.length])
abbrev Zo : List HS := [(Zn f u l), .dead, Zm, (Zi l)]
abbrev Zp : SV := dU ([] : List UInt8)
abbrev Zq : List SV := [dI 0, Zp]
abbrev Zr : List AV := [pv 0 0, vI s, slV tb nb kU8 b, aa, aa, aa, pv 2 0, vI 0, pv 5 0, aa, aa, aa, (Zj f u s), aa, aa, aa, (Zk b)]
abbrev Zs : List SV := [dI s, dU b]
abbrev Zt : HS := .live (.box 35 (Zs s b))
abbrev Zu : List AV := [pv 0 0, vI s, slV tb nb kU8 b, aa, aa, aa, pv 2 0, vI 0, pv 5 0, aa, aa, aa, (Zj f u s), aa, aa, aa, (Zk b), aa, aa, aa, aa, aa, aa, aa, aa, aa, vB (!(decide ((aE.mk s b) ∈ l)))]
abbrev Zv : List AV := [pv 0 0, vI s, slV tb nb kU8 b, aa, aa, aa, pv 2 0, vI 30, aa, aa, aa, aa, (Zj f u s)]
end
theorem ref03_Sign (f : Int) (u : Int) (l : List aE) (s : Int) (tb : Bool) (nb : Bool) (b : List UInt8) (hf : 0 ≤ f ∧ f ≤ 2) (hu : 0 ≤ u ∧ u ≤ 8) (hs : -9223372036854775808 ≤ s ∧ s ≤ 9223372036854775807) (hb : b.length ≤ 140737488355328) (hl : l.length ≤ 2147483648) : Holds Tryz.prog 52 ⟨[pv 0 0, vI s, slV tb nb kU8 b], [.box 75 [dB true, dI f, dI u, .own 1 (kE false).sz 0 l.length], arrK 35 (kE false) l], .tup [.agg [dI (signV f u s b).f_Signer, dU (signV f u s b).f_Body], .one (dI (signE f u s b))], [.live (.box 75 [dB true, dI f, dI u, .own 2 (kE false).sz 0 (signL f u l s b).length]), .dead, .live (arrK 35 (kE false) (signL f u l s b))]⟩ := by
 refine Holds.of Tryz.func52 rfl (N := 38) Tryz.ntmps52 rfl fun w0 B0 S0 U0 => ?_
 show T _ (mkBase 38 2 w0 S0 U0 B0) ⟨[pv 0 0, vI s, slV tb nb kU8 b], [(Zg f u l), (Zi l)]⟩ _ _
 refine sR [] ?_
 refine T.seq ?_
 refine sR [hR 2 rfl rfl (rCa (ref03_Known f u l s ‹_› ‹_› ‹_›) Tryz.func70 [0, 1] [(.tmp 9, pv 0 0), (.tmp 10, vI s)] 2 2)] ?_
 by_cases hq1 : isKnown f u s
 ·refine cF (cn (dT hq1)) ?_
  refine T.skip (nT (T.seq ?_))
  refine sR [] ?_
  by_cases hq2 : ((b.length : Nat) : Int) > 16777216
  ·refine cT (dT hq2) ?_
   refine sR [] ?_
   refine T.ret (rT ?_)
   refine eN ⟨(Zl f u s tb nb b), [(Zg f u l), (Zi l), Zm]⟩ ?_
   refine Ends.turn (s' := ⟨(Zl f u s tb nb b), (Zo f u l)⟩) (fun _ _ hG => Gs.move (s := ⟨(Zl f u s tb nb b), [(Zg f u l), (Zi l), Zm]⟩) 1 3 (o := (Zh l)) rfl rfl rfl ⟨.inl rfl, (kk16 trivial)⟩ ⟨(.inr (.inr ⟨by decide, by decide, (.inr ⟨rfl, ⟨.inl rfl, (kk2 ⟨(.inr rfl), trivial⟩)⟩⟩)⟩)), ⟨(.inl ⟨rfl, rfl⟩), ⟨(.inr (.inr ⟨by decide, by decide, (.inl rfl)⟩)), ⟨(.inr (.inl ⟨rfl, rfl⟩)), trivial⟩⟩⟩⟩ hG) ?_
   refine eN ⟨(Zl f u s tb nb b), (Zo f u l)⟩ ?_
   refine Ends.turn (s' := ⟨(Zl f u s tb nb b), [(Zn f u l), .dead, .live (.box 35 Zq), (Zi l)]⟩) (fun _ _ hG => Gs.less (s := ⟨(Zl f u s tb nb b), (Zo f u l)⟩) ⟨.inl rfl, (kk16 trivial)⟩ (kk2 ⟨(.inr ⟨rfl, ⟨.inl rfl, ⟨(.inr ⟨rfl, rfl, rfl⟩), trivial⟩⟩⟩), ⟨.inl rfl, trivial⟩⟩) hG) ?_
   exact eX [.c 6 2 35 0 35 [dI 0, Zp] (.agg Zq), .t 7 (.one (dI 11))] ⟨⟨rfl, rfl, by kernel_rfl, by kernel_rfl, .inl ⟨2, wide_35, rfl, Nat.le_of_ble_eq_true rfl⟩⟩, ⟨⟨rfl, by kernel_rfl⟩, trivial⟩⟩ [0, 1, 3] (by have e1 : ((signV f u s b).f_Signer : Int) = 0 := (by (simp [signE, signV, signL, putL, zE, *]; done)); have e2 : ((signV f u s b).f_Body : List UInt8) = ([] : List UInt8) := (by (simp [signE, signV, signL, putL, zE, *]; done)); have e3 : ((signE f u s b) : Int) = 11 := (by (simp [signE, signV, signL, putL, zE, *]; done)); have hE := congr (congr (congrArg (fun (q1 : Int) (q2 : List UInt8) (q3 : Int) => (.tup [.agg [dI q1, dU q2], .one (dI q3)] : AV)) e1) e2) e3; exact hE) ⟨⟨rfl, (by have e1 : (l.length : Nat) = (signL f u l s b).length := (by (simp [signE, signV, signL, putL, zE, *]; done)); have hE := congrArg (fun (q1 : Nat) => (.live (.box 75 [dB true, dI f, dI u, .own 3 (kE false).sz 0 q1]) : HS)) e1; exact Eq.trans (by kernel_rfl) hE)⟩, ⟨⟨rfl, (by have e1 : (l : List aE) = (signL f u l s b) := (by (simp [signE, signV, signL, putL, zE, *]; done)); have hE := congrArg (fun (q1 : List aE) => (.live (arrK 35 (kE false) q1) : HS)) e1; exact Eq.trans (by kernel_rfl) hE)⟩, trivial⟩⟩
  refine cF (dF hq2) ?_
  refine T.skip (nT ?_)
  refine sR [hR 1 rfl rfl (q_buildSlice 3 5 kU8 kU8_ok ([] : List UInt8) [] (cs := []) Tryz.underlying33 iat_5 rfl zero_5 rfl rfl rfl (Nat.le_of_ble_eq_true rfl) part_ok (by kernel_rfl) (wk_eq (by kernel_rfl)) (lt_of rfl) trivial),
    hR 3 rfl rfl (q_appendO 3 4 5 1 kU8 kU8_ok ([] : List UInt8) b b ([] : List UInt8).length (sy := (.d (dsl tb nb kU8 b))) (rhs := []) elem_33 (by omega) (src_sl tb nb kU8 b) (by simp) (by (simp [maxLen, -List.getD_eq_getElem?_getD] <;> omega)) (by (simp [maxLen, -List.getD_eq_getElem?_getD] <;> omega)) (lt_of rfl) trivial)] ?_
  refine T.seq ?_
  refine tN ⟨(Zr f u s tb nb b), [(Zg f u l), (Zi l), Zm, .dead, .live (arrK 5 kU8 b), .live (.box 35 [dI s, .own 4 kU8.sz 0 b.length])]⟩ ?_
  refine T.turn (s' := ⟨(Zr f u s tb nb b), [(Zg f u l), (Zi l), Zm, .dead, .dead, (Zt s b)]⟩) (fun _ _ hG => Gs.freeze (s := ⟨(Zr f u s tb nb b), [(Zg f u l), (Zi l), Zm, .dead, .live (arrK 5 kU8 b), .live (.box 35 [dI s, .own 4 kU8.sz 0 b.length])]⟩) 4 (el := elOf kU8 b) (sz := kU8.sz) (n := b.length) rfl ⟨.inl rfl, (kk16 trivial)⟩ ⟨(.inr ⟨by decide, .inl rfl⟩), ⟨(.inr ⟨by decide, .inl rfl⟩), ⟨(.inr ⟨by decide, .inl rfl⟩), ⟨(.inr ⟨by decide, .inl rfl⟩), ⟨(.inl ⟨rfl, rfl⟩), ⟨(.inr ⟨by decide, .inr ⟨rfl, ⟨.inl rfl, ⟨(.inr ⟨rfl, rfl, rfl, (fun h => by cases h), rfl, rfl, Nat.le_of_eq (Nat.zero_add _), fun i j _ => by rw [Nat.zero_add]⟩), trivial⟩⟩⟩⟩), trivial⟩⟩⟩⟩⟩⟩ hG) ?_
  refine sR [hR 2 rfl rfl (rCa (ref03_Has f u l false (aE.mk s b) (by omega)) Tryz.func71 [0, 1] [(.tmp 23, pv 0 0), (.tmp 24, .tv (.agg (Zs s b)))] 2 2)] ?_
  by_cases hq3 : (aE.mk s b) ∈ l
  ·refine cF (cn (dT hq3)) ?_
   refine T.skip (nT ?_)
   refine sR [] ?_
   refine T.ret ?_
   refine eN ⟨(Zu f u l s tb nb b), [(Zg f u l), (Zi l), (Zt s b), .dead, .dead, (Zt s b)]⟩ ?_
   refine Ends.turn (s' := ⟨(Zu f u l s tb nb b), [.live (.box 75 [dB true, dI f, dI u, .own 6 (kE false).sz 0 l.length]), .dead, (Zt s b), .dead, .dead, (Zt s b), (Zi l)]⟩) (fun _ _ hG => Gs.move (s := ⟨(Zu f u l s tb nb b), [(Zg f u l), (Zi l), (Zt s b), .dead, .dead, (Zt s b)]⟩) 1 6 (o := (Zh l)) rfl rfl rfl ⟨.inl rfl, (kk2 (kk8 (kk16 trivial)))⟩ ⟨(.inr (.inr ⟨by decide, by decide, (.inr ⟨rfl, ⟨.inl rfl, (kk2 ⟨(.inr rfl), trivial⟩)⟩⟩)⟩)), ⟨(.inl ⟨rfl, rfl⟩), ⟨(.inr (.inr ⟨by decide, by decide, (.inl rfl)⟩)), ⟨(.inr (.inr ⟨by decide, by decide, (.inl rfl)⟩)), ⟨(.inr (.inr ⟨by decide, by decide, (.inl rfl)⟩)), ⟨(.inr (.inr ⟨by decide, by decide, (.inl rfl)⟩)), ⟨(.inr (.inl ⟨rfl, rfl⟩)), trivial⟩⟩⟩⟩⟩⟩⟩ hG) ?_
   exact eX [.c 6 2 35 0 35 [dI s, dU b] (.agg (Zs s b)), .t 7 (.one (dI 0))] ⟨⟨rfl, rfl, by kernel_rfl, by kernel_rfl, .inl ⟨2, wide_35, rfl, Nat.le_of_ble_eq_true rfl⟩⟩, ⟨⟨rfl, by kernel_rfl⟩, trivial⟩⟩ [0, 1, 6] (by have e1 : ((signV f u s b).f_Signer : Int) = s := (by (simp [signE, signV, signL, putL, zE, *]; done)); have e2 : ((signV f u s b).f_Body : List UInt8) = b := (by (simp [signE, signV, signL, putL, zE, *]; done)); have e3 : ((signE f u s b) : Int) = 0 := (by (simp [signE, signV, signL, putL, zE, *]; done)); have hE := congr (congr (congrArg (fun (q1 : Int) (q2 : List UInt8) (q3 : Int) => (.tup [.agg [dI q1, dU q2], .one (dI q3)] : AV)) e1) e2) e3; exact hE) ⟨⟨rfl, (by have e1 : (l.length : Nat) = (signL f u l s b).length := (by (simp [signE, signV, signL, putL, zE, *]; done)); have hE := congrArg (fun (q1 : Nat) => (.live (.box 75 [dB true, dI f, dI u, .own 6 (kE false).sz 0 q1]) : HS)) e1; exact Eq.trans (by kernel_rfl) hE)⟩, ⟨⟨rfl, (by have e1 : (l : List aE) = (signL f u l s b) := (by (simp [signE, signV, signL, putL, zE, *]; done)); have hE := congrArg (fun (q1 : List aE) => (.live (arrK 35 (kE false) q1) : HS)) e1; exact Eq.trans (by kernel_rfl) hE)⟩, trivial⟩⟩
  refine cT (cn (dF hq3)) ?_
  refine xD [[], [], [1], [1, 2], [1, 2, 3], [], [5], [1, 2, 3, 4, 5, 6], [0, 1, 2, 3, 4, 5, 6, 7], [0, 1, 2, 3, 4, 5, 6, 7, 8], [0, 1, 2, 3, 4, 5, 6, 7, 8, 9]] [hR 6 rfl rfl (q_buildSlice 6 35 (kE false) (k_api_Envelope_ok false) [(aE.mk s b)] [⟨0, .tmp 32, .agg (Zs s b), 0⟩] (cs := [dI s, dU b]) Tryz.underlying36 iat_35 rfl zero_35 rfl rfl rfl (Nat.le_of_ble_eq_true rfl) (part_cons rfl rfl (Nat.le_of_ble_eq_true rfl) part_ok) (by kernel_rfl) (wk_eq (by kernel_rfl)) (lt_of rfl) trivial),
    hR 7 rfl rfl (q_appendO 1 7 35 32 (kE false) (k_api_Envelope_ok false) l [(aE.mk s b)] (l ++ [(aE.mk s b)]) l.length (sy := (.own 6 (kE false).sz 0 [(aE.mk s b)].length)) (rhs := [(6, .live (arrK 35 (kE false) [(aE.mk s b)]))]) elem_36 (by omega) (src_own 6 35 (kE false) [(aE.mk s b)]) (by rw [List.take_length]) (by (simp [maxLen, -List.getD_eq_getElem?_getD] <;> omega)) (by (simp [maxLen, -List.getD_eq_getElem?_getD] <;> omega)) (lt_of rfl) trivial)] (by kernel_rfl) (by kernel_rfl) (by kernel_rfl) (by kernel_rfl) (by kernel_rfl) (by kernel_rfl) ?_
  refine nT ?_
  refine sR [] ?_
  refine T.ret ?_
  exact eX [.c 6 2 35 0 35 [dI s, dU b] (.agg (Zs s b)), .t 7 (.one (dI 0))] ⟨⟨rfl, rfl, by kernel_rfl, by kernel_rfl, .inl ⟨2, wide_35, rfl, Nat.le_of_ble_eq_true rfl⟩⟩, ⟨⟨rfl, by kernel_rfl⟩, trivial⟩⟩ [0, 1, 7] (by have e1 : ((signV f u s b).f_Signer : Int) = s := (by (simp [signE, signV, signL, putL, zE, *]; done)); have e2 : ((signV f u s b).f_Body : List UInt8) = b := (by (simp [signE, signV, signL, putL, zE, *]; done)); have e3 : ((signE f u s b) : Int) = 0 := (by (simp [signE, signV, signL, putL, zE, *]; done)); have hE := congr (congr (congrArg (fun (q1 : Int) (q2 : List UInt8) (q3 : Int) => (.tup [.agg [dI q1, dU q2], .one (dI q3)] : AV)) e1) e2) e3; exact hE) ⟨⟨rfl, (by have e1 : ((l ++ [(aE.mk s b)]).length : Nat) = (signL f u l s b).length := (by (simp [signE, signV, signL, putL, zE, *]; done)); have hE := congrArg (fun (q1 : Nat) => (.live (.box 75 [dB true, dI f, dI u, .own 7 (kE false).sz 0 q1]) : HS)) e1; exact Eq.trans (by kernel_rfl) hE)⟩, ⟨⟨rfl, (by have e1 : (l ++ [(aE.mk s b)] : List aE) = (signL f u l s b) := (by (simp [signE, signV, signL, putL, zE, *]; done)); have hE := congrArg (fun (q1 : List aE) => (.live (arrK 35 (kE false) q1) : HS)) e1; exact Eq.trans (by kernel_rfl) hE)⟩, trivial⟩⟩
 refine cT (cn (dF hq1)) ?_
 refine sR [] ?_
 refine T.ret (rT ?_)
 refine eN ⟨(Zv f u s tb nb b), [(Zg f u l), (Zi l), Zm]⟩ ?_
 refine Ends.turn (s' := ⟨(Zv f u s tb nb b), (Zo f u l)⟩) (fun _ _ hG => Gs.move (s := ⟨(Zv f u s tb nb b), [(Zg f u l), (Zi l), Zm]⟩) 1 3 (o := (Zh l)) rfl rfl rfl ⟨.inl rfl, (kk4 (kk8 trivial))⟩ ⟨(.inr (.inr ⟨by decide, by decide, (.inr ⟨rfl, ⟨.inl rfl, (kk2 ⟨(.inr rfl), trivial⟩)⟩⟩)⟩)), ⟨(.inl ⟨rfl, rfl⟩), ⟨(.inr (.inr ⟨by decide, by decide, (.inl rfl)⟩)), ⟨(.inr (.inl ⟨rfl, rfl⟩)), trivial⟩⟩⟩⟩ hG) ?_
 refine eN ⟨(Zv f u s tb nb b), (Zo f u l)⟩ ?_
 refine Ends.turn (s' := ⟨(Zv f u s tb nb b), [(Zn f u l), .dead, .live (.box 35 Zq), (Zi l)]⟩) (fun _ _ hG => Gs.less (s := ⟨(Zv f u s tb nb b), (Zo f u l)⟩) ⟨.inl rfl, (kk4 (kk8 trivial))⟩ (kk2 ⟨(.inr ⟨rfl, ⟨.inl rfl, ⟨(.inr ⟨rfl, rfl, rfl⟩), trivial⟩⟩⟩), ⟨.inl rfl, trivial⟩⟩) hG) ?_
 exact eX [.c 6 2 35 0 35 [dI 0, Zp] (.agg Zq), .t 7 (.one (dI 30))] ⟨⟨rfl, rfl, by kernel_rfl, by kernel_rfl, .inl ⟨2, wide_35, rfl, Nat.le_of_ble_eq_true rfl⟩⟩, ⟨⟨rfl, by kernel_rfl⟩, trivial⟩⟩ [0, 1, 3] (by have e1 : ((signV f u s b).f_Signer : Int) = 0 := (by (simp [signE, signV, signL, putL, zE, *]; done)); have e2 : ((signV f u s b).f_Body : List UInt8) = ([] : List UInt8) := (by (simp [signE, signV, signL, putL, zE, *]; done)); have e3 : ((signE f u s b) : Int) = 30 := (by (simp [signE, signV, signL, putL, zE, *]; done)); have hE := congr (congr (congrArg (fun (q1 : Int) (q2 : List UInt8) (q3 : Int) => (.tup [.agg [dI q1, dU q2], .one (dI q3)] : AV)) e1) e2) e3; exact hE) ⟨⟨rfl, (by have e1 : (l.length : Nat) = (signL f u l s b).length := (by (simp [signE, signV, signL, putL, zE, *]; done)); have hE := congrArg (fun (q1 : Nat) => (.live (.box 75 [dB true, dI f, dI u, .own 3 (kE false).sz 0 q1]) : HS)) e1; exact Eq.trans (by kernel_rfl) hE)⟩, ⟨⟨rfl, (by have e1 : (l : List aE) = (signL f u l s b) := (by (simp [signE, signV, signL, putL, zE, *]; done)); have hE := congrArg (fun (q1 : List aE) => (.live (arrK 35 (kE false) q1) : HS)) e1; exact Eq.trans (by kernel_rfl) hE)⟩, trivial⟩⟩
theorem ref03_Check (f : Int) (u : Int) (l : List aE) (te : Bool) (e : aE) (hf : 0 ≤ f ∧ f ≤ 2) (hu : 0 ≤ u ∧ u ≤ 8) (hs : -9223372036854775808 ≤ e.f_Signer ∧ e.f_Signer ≤ 9223372036854775807) (hl : l.length ≤ 9223372036854775806) : Holds Tryz.prog 103 ⟨[pv 0 0, .tv (.agg [dI e.f_Signer, .d (dsl te false kU8 e.f_Body)])], [.box 75 [dB true, dI f, dI u, .own 1 (kE false).sz 0 l.length], arrK 35 (kE false) l], vI (checkL f u l e), [.live (.box 75 [dB true, dI f, dI u, .own 1 (kE false).sz 0 l.length]), .live (arrK 35 (kE false) l)]⟩ := by
 refine Holds.of Tryz.func103 rfl (N := 14) Tryz.ntmps103 rfl fun w0 B0 S0 U0 => ?_
 show T _ (mkBase 14 2 w0 S0 U0 B0) ⟨[pv 0 0, .tv (.agg [dI e.f_Signer, .d (dsl te false kU8 e.f_Body)])], [.live (.box 75 [dB true, dI f, dI u, .own 1 (kE false).sz 0 l.length]), .live (arrK 35 (kE false) l)]⟩ _ _
 refine sR [] ?_
 refine T.seq ?_
 refine sR [hR 3 rfl rfl (rCa (ref03_Known f u l e.f_Signer ‹_› ‹_› ‹_›) Tryz.func70 [0, 1] [(.tmp 5, pv 0 0), (.tmp 7, vI e.f_Signer)] 2 2)] ?_
 by_cases hq1 : isKnown f u e.f_Signer
 ·refine cF (cn (dT hq1)) ?_
  refine T.skip (nT (T.seq ?_))
  refine sR [hR 2 rfl rfl (rCa (ref03_Has f u l te e ‹_›) Tryz.func71 [0, 1] [(.tmp 10, pv 0 0), (.tmp 11, .tv (.agg [dI e.f_Signer, .d (dsl te false kU8 e.f_Body)]))] 2 2)] ?_
  by_cases hq2 : e ∈ l
  ·refine cF (cn (dT hq2)) ?_
   refine T.skip (nT ?_)
   refine sR [] ?_
   refine T.ret ?_
   exact eRt 4 (.one (dI 0)) [0, 1] (by have e1 : ((checkL f u l e) : Int) = 0 := (by (simp [checkL, *]; done)); have hE := cI e1; exact hE) (ix (ix trivial))
  refine cT (cn (dF hq2)) ?_
  refine sR [] ?_
  refine T.ret (rT ?_)
  exact eRt 4 (.one (dI 31)) [0, 1] (by have e1 : ((checkL f u l e) : Int) = 31 := (by (simp [checkL, *]; done)); have hE := cI e1; exact hE) (ix (ix trivial))
 refine cT (cn (dF hq1)) ?_
 refine sR [] ?_
 refine T.ret (rT ?_)
 exact eRt 4 (.one (dI 30)) [0, 1] (by have e1 : ((checkL f u l e) : Int) = 30 := (by (simp [checkL, *]; done)); have hE := cI e1; exact hE) (ix (ix trivial))
theorem clip_u8 (tb : Bool) (nb : Bool) (b : List UInt8) : Holds Tryz.prog 136 ⟨[slV tb nb kU8 b], [], clV tb nb kU8 b, []⟩ := by
 refine Holds.of Tryz.func136 rfl (N := 9) Tryz.ntmps136 rfl fun w0 B0 S0 U0 => ?_
 show T _ (mkBase 9 0 w0 S0 U0 B0) ⟨[slV tb nb kU8 b], []⟩ _ _
 refine sR [] ?_
 refine sR [hR 5 rfl rfl (q_clip tb nb kU8 b (p := ((b.length : Nat) : Int)) (q := ((b.length : Nat) : Int)) Tryz.underlying33 iat_5 rfl (by omega) (by omega) (lt_of rfl) trivial)] ?_
 refine T.ret ?_
 exact eRt 2 (.one (.cl tb nb kU8.sz b.length (elOf kU8 b))) [] rfl trivial
abbrev Zw (n : Nat) : AV := dv (.int .u64 ((n : Nat) : Int))
abbrev Zx (m : Nat) : AV := vI ((m : Nat) : Int)
abbrev Zy (j : Nat) : AV := vI ((j - 1 : Nat) : Int)
theorem wire_spell (tb : Bool) (nb : Bool) (b : List UInt8) (n : Nat) (m : Nat) (hb : b.length ≤ 140737488355000) (hn : n < 18446744073709551616) (hm : m ≤ 7) : Holds Tryz.prog 130 ⟨[slV tb nb kU8 b, dv (.int .u64 ((n : Nat) : Int)), vI ((m + 1 : Nat) : Int)], [], ownV 0 kU8 0 (b ++ (spellB n (m + 1))).length, [.live (arrK 5 kU8 (b ++ (spellB n (m + 1))))]⟩ := by
 refine Holds.of Tryz.func130 rfl (N := 22) Tryz.ntmps130 rfl fun w0 B0 S0 U0 => ?_
 show T _ (mkBase 22 0 w0 S0 U0 B0) ⟨[slV tb nb kU8 b, (Zw n), vI ((m + 1 : Nat) : Int)], []⟩ _ _
 refine sR [] ?_
 refine sR [hR 1 rfl rfl (rCa (clip_u8 tb nb b ) Tryz.func136 [] [(.tmp 7, slV tb nb kU8 b)] 0 0)] ?_
 refine T.seq ?_
 refine T.block ?_
 refine T.ofTL ?_
 refine TL.peel ?_
 refine T.seq ?_
 refine sR [] ?_
 by_cases hq1 : ((m + 1 : Nat) : Int) > 0
 ·refine cT (dT hq1) ?_
  refine T.skip (nT ?_)
  refine T.block ?_
  refine sR [hR 1 rfl rfl (r_bin (u1 := .int .i64 ((m + 1 : Nat) : Int)) (u2 := .int .i64 1) (v := .int .i64 ((m : Nat) : Int)) (b_sub (by rw [IntKind.wrap_i64]; omega)) (lt_of rfl) ⟨rfl, trivial⟩)] ?_
  refine xR [hR 3 rfl rfl (r_bin (u1 := .int .i64 8) (u2 := .int .i64 ((m : Nat) : Int)) (v := .int .i64 ((8 * m : Nat) : Int)) (b_mul (by rw [IntKind.wrap_i64]; omega)) (lt_of rfl) ⟨rfl, trivial⟩),
    hR 4 rfl rfl (r_bin (u1 := .int .u64 ((n : Nat) : Int)) (u2 := .int .i64 ((8 * m : Nat) : Int)) (v := .int .u64 ((n / 2 ^ (8 * m) : Nat) : Int)) (b_shrN (n := 8 * m) rfl (Nat.le_trans (by omega) (by decide : 64 ≤ _))) (lt_of rfl) trivial),
    hR 5 rfl rfl (r_conv (u := .int .u64 ((n / 2 ^ (8 * m) : Nat) : Int)) (v := .int .u8 (((UInt8.ofNat (n / 2 ^ (8 * m))).toNat : Nat) : Int)) (c_byte Tryz.underlying120 Tryz.underlying5) (lt_of rfl) trivial),
    hR 6 rfl rfl (q_buildSlice 0 5 kU8 kU8_ok [(UInt8.ofNat (n / 2 ^ (8 * m)))] [⟨0, .tmp 18, .one (.d (.val (.int .u8 (((UInt8.ofNat (n / 2 ^ (8 * m))).toNat : Nat) : Int)))), 0⟩] (cs := [.d (.val (.int .u8 (((UInt8.ofNat (n / 2 ^ (8 * m))).toNat : Nat) : Int)))]) Tryz.underlying33 iat_5 rfl zero_5 rfl rfl rfl (Nat.le_of_ble_eq_true rfl) (part_cons rfl rfl (Nat.le_of_ble_eq_true rfl) part_ok) (by kernel_rfl) (wk_eq (by kernel_rfl)) (lt_of rfl) trivial),
    hR 7 rfl rfl (q_appendC 1 5 1 tb nb kU8 kU8_ok b [(UInt8.ofNat (n / 2 ^ (8 * m)))] (b ++ [(UInt8.ofNat (n / 2 ^ (8 * m)))]) (sy := (.own 0 kU8.sz 0 [(UInt8.ofNat (n / 2 ^ (8 * m)))].length)) (rhs := [(0, .live (arrK 5 kU8 [(UInt8.ofNat (n / 2 ^ (8 * m)))]))]) elem_33 (by (simp [maxLen, -List.getD_eq_getElem?_getD] <;> omega)) (src_own 0 5 kU8 [(UInt8.ofNat (n / 2 ^ (8 * m)))]) rfl (by (simp [maxLen, -List.getD_eq_getElem?_getD] <;> omega)) (by (simp [maxLen, -List.getD_eq_getElem?_getD] <;> omega)) (lt_of rfl) trivial)] (by kernel_rfl) (by kernel_rfl) ?_
  refine nB ?_
  refine nP ?_
  refine TL.loop (ι := Nat × (List UInt8)) (fun (x_ : Nat × (List UInt8)) => ⟨[ownV 0 kU8 0 x_.2.length, (Zw n), vI ((x_.1 : Nat) : Int)], [.live (arrK 5 kU8 x_.2)]⟩) (fun (x_ : Nat × (List UInt8)) => (x_.1 ≤ m) ∧ (x_.2 ++ spellB n x_.1 = b ++ spellB n (m + 1))) (fun (x_ : Nat × (List UInt8)) => x_.1) (m, b ++ [UInt8.ofNat (n / 2 ^ (8 * m))]) ⟨(Nat.le_refl _), (by rw [List.append_assoc]; rfl)⟩ (fun _ _ hG => Gs.i2 [1] [true, true, true] (t1 := [ownV 1 kU8 0 (b ++ [UInt8.ofNat (n / 2 ^ (8 * m))]).length, (Zw n), (Zx m)]) (t2 := [ownV 1 kU8 0 (b ++ [(UInt8.ofNat (n / 2 ^ (8 * m)))]).length, (Zw n), (Zx m)]) (h1 := [.live (arrK 5 kU8 (b ++ [UInt8.ofNat (n / 2 ^ (8 * m))]))]) (h2 := [.live (arrK 5 kU8 (b ++ [(UInt8.ofNat (n / 2 ^ (8 * m)))]))]) (congrArg (fun (q1 : Nat) => ([ownV 1 kU8 0 q1, (Zw n), (Zx m)] : List AV)) (by rfl)) (congrArg (fun (q1 : List UInt8) => ([.live (arrK 5 kU8 q1)] : List HS)) (by rfl)) hG) ?_
  rintro ⟨j, acc⟩ ⟨hj, he⟩
  show T _ _ ⟨[ownV 0 kU8 0 acc.length, (Zw n), vI ((j : Nat) : Int)], [.live (arrK 5 kU8 acc)]⟩ _ _
  replace hj : j ≤ m := hj
  replace he : acc ++ spellB n j = b ++ spellB n (m + 1) := he
  have hacc := spell_lenE he
  refine T.seq ?_
  refine sR [] ?_
  by_cases hq2 : ((j : Nat) : Int) > 0
  ·refine cT (dT hq2) ?_
   refine T.skip (nT ?_)
   refine T.block ?_
   refine sR [hR 1 rfl rfl (r_bin (u1 := .int .i64 ((j : Nat) : Int)) (u2 := .int .i64 1) (v := .int .i64 ((j - 1 : Nat) : Int)) (b_sub (by rw [IntKind.wrap_i64]; omega)) (lt_of rfl) ⟨rfl, trivial⟩)] ?_
   refine xR [hR 3 rfl rfl (r_bin (u1 := .int .i64 8) (u2 := .int .i64 ((j - 1 : Nat) : Int)) (v := .int .i64 ((8 * (j - 1) : Nat) : Int)) (b_mul (by rw [IntKind.wrap_i64]; omega)) (lt_of rfl) ⟨rfl, trivial⟩),
     hR 4 rfl rfl (r_bin (u1 := .int .u64 ((n : Nat) : Int)) (u2 := .int .i64 ((8 * (j - 1) : Nat) : Int)) (v := .int .u64 ((n / 2 ^ (8 * (j - 1)) : Nat) : Int)) (b_shrN (n := 8 * (j - 1)) rfl (Nat.le_trans (by omega) (by decide : 64 ≤ _))) (lt_of rfl) trivial),
     hR 5 rfl rfl (r_conv (u := .int .u64 ((n / 2 ^ (8 * (j - 1)) : Nat) : Int)) (v := .int .u8 (((UInt8.ofNat (n / 2 ^ (8 * (j - 1)))).toNat : Nat) : Int)) (c_byte Tryz.underlying120 Tryz.underlying5) (lt_of rfl) trivial),
     hR 6 rfl rfl (q_buildSlice 1 5 kU8 kU8_ok [(UInt8.ofNat (n / 2 ^ (8 * (j - 1))))] [⟨0, .tmp 18, .one (.d (.val (.int .u8 (((UInt8.ofNat (n / 2 ^ (8 * (j - 1)))).toNat : Nat) : Int)))), 0⟩] (cs := [.d (.val (.int .u8 (((UInt8.ofNat (n / 2 ^ (8 * (j - 1)))).toNat : Nat) : Int)))]) Tryz.underlying33 iat_5 rfl zero_5 rfl rfl rfl (Nat.le_of_ble_eq_true rfl) (part_cons rfl rfl (Nat.le_of_ble_eq_true rfl) part_ok) (by kernel_rfl) (wk_eq (by kernel_rfl)) (lt_of rfl) trivial),
     hR 7 rfl rfl (q_appendO 0 2 5 1 kU8 kU8_ok acc [(UInt8.ofNat (n / 2 ^ (8 * (j - 1))))] (acc ++ [(UInt8.ofNat (n / 2 ^ (8 * (j - 1))))]) acc.length (sy := (.own 1 kU8.sz 0 [(UInt8.ofNat (n / 2 ^ (8 * (j - 1))))].length)) (rhs := [(1, .live (arrK 5 kU8 [(UInt8.ofNat (n / 2 ^ (8 * (j - 1))))]))]) elem_33 (by omega) (src_own 1 5 kU8 [(UInt8.ofNat (n / 2 ^ (8 * (j - 1))))]) (by rw [List.take_length]) (by (simp [maxLen, -List.getD_eq_getElem?_getD] <;> omega)) (by (simp [maxLen, -List.getD_eq_getElem?_getD] <;> omega)) (lt_of rfl) trivial)] (by kernel_rfl) (by kernel_rfl) ?_
   refine nB ?_
   refine nL (j - 1, acc ++ [UInt8.ofNat (n / 2 ^ (8 * (j - 1)))]) ⟨(show (j - 1) ≤ m from (by omega)), (show (acc ++ [UInt8.ofNat (n / 2 ^ (8 * (j - 1)))]) ++ spellB n (j - 1) = b ++ spellB n (m + 1) from (spell_step he (by omega)))⟩ (show ((j - 1) : Nat) < j from (by omega)) (fun _ _ hG => Gs.i2 [2] [true, true, true] (t1 := [ownV 2 kU8 0 (acc ++ [UInt8.ofNat (n / 2 ^ (8 * (j - 1)))]).length, (Zw n), (Zy j)]) (t2 := [ownV 2 kU8 0 (acc ++ [(UInt8.ofNat (n / 2 ^ (8 * (j - 1))))]).length, (Zw n), (Zy j)]) (h1 := [.live (arrK 5 kU8 (acc ++ [UInt8.ofNat (n / 2 ^ (8 * (j - 1)))]))]) (h2 := [.live (arrK 5 kU8 (acc ++ [(UInt8.ofNat (n / 2 ^ (8 * (j - 1))))]))]) (congrArg (fun (q1 : Nat) => ([ownV 2 kU8 0 q1, (Zw n), (Zy j)] : List AV)) (by rfl)) (congrArg (fun (q1 : List UInt8) => ([.live (arrK 5 kU8 q1)] : List HS)) (by rfl)) hG)
  refine cF (dF hq2) ?_
  refine T.exit ?_
  refine xT ?_
  refine xT ?_
  refine xH ?_
  refine nT ?_
  refine sR [] ?_
  refine T.ret ?_
  exact eRt 6 (.one (.own 0 kU8.sz 0 acc.length)) [0] (by have e1 : ((b ++ (spellB n (m + 1))).length : Nat) = acc.length := (by (rw [spell_end he (by omega)])); have hE := congrArg (fun (q1 : Nat) => (ownV 0 kU8 0 q1 : AV)) e1; exact hE) ⟨⟨rfl, (by have e1 : (acc : List UInt8) = b ++ (spellB n (m + 1)) := (by (rw [spell_end he (by omega)])); have hE := congrArg (fun (q1 : List UInt8) => (.live (arrK 5 kU8 q1) : HS)) e1; exact Eq.trans (by kernel_rfl) hE)⟩, trivial⟩
 exact absurd (by omega) hq1
theorem wire_PutInt (tb : Bool) (nb : Bool) (b : List UInt8) (n : Int) (hb : b.length ≤ 140737488355000) : Holds Tryz.prog 121 ⟨[slV tb nb kU8 b, vI n], [], ownV 0 kU8 0 (b ++ intB n).length, [.live (arrK 5 kU8 (b ++ intB n))]⟩ := by
 refine Holds.of Tryz.func121 rfl (N := 9) Tryz.ntmps121 rfl fun w0 B0 S0 U0 => ?_
 show T _ (mkBase 9 0 w0 S0 U0 B0) ⟨[slV tb nb kU8 b, vI n], []⟩ _ _
 have hn := u64_lt n
 refine sR [] ?_
 refine sR [hR 2 rfl rfl (r_conv (u := .int .i64 n) (v := .int .u64 ((u64 n : Nat) : Int)) (c_u64 Tryz.underlying2 Tryz.underlying120) (lt_of rfl) trivial),
   hR 3 rfl rfl (rCa (wire_spell tb nb b (u64 n) 7 ‹_› ‹_› (by omega)) Tryz.func130 [0] [(.tmp 5, slV tb nb kU8 b), (.tmp 7, dv (.int .u64 ((u64 n : Nat) : Int))), (.const (.int .i64 8), vI 8)] 0 1)] ?_
 refine T.ret ?_
 exact eRt 4 (.one (.own 0 kU8.sz 0 (b ++ (spellB (u64 n) 8)).length)) [0] (congrArg (fun (q1 : Nat) => (ownV 0 kU8 0 q1 : AV)) (by rfl)) ⟨⟨rfl, (by have e1 : (b ++ (spellB (u64 n) 8) : List UInt8) = b ++ intB n := (by rfl); have hE := congrArg (fun (q1 : List UInt8) => (.live (arrK 5 kU8 q1) : HS)) e1; exact Eq.trans (by kernel_rfl) hE)⟩, trivial⟩
theorem wire_PutCount (tb : Bool) (nb : Bool) (b : List UInt8) (n : Int) (hb : b.length ≤ 140737488355000) : Holds Tryz.prog 122 ⟨[slV tb nb kU8 b, vI n], [], ownV 0 kU8 0 (b ++ cntB n).length, [.live (arrK 5 kU8 (b ++ cntB n))]⟩ := by
 refine Holds.of Tryz.func122 rfl (N := 11) Tryz.ntmps122 rfl fun w0 B0 S0 U0 => ?_
 show T _ (mkBase 11 0 w0 S0 U0 B0) ⟨[slV tb nb kU8 b, vI n], []⟩ _ _
 have hn := cntN_lt n
 refine sR [] ?_
 refine sR [hR 2 rfl rfl (r_max (k := .i64) (a := n) (b := 0) (lt_of rfl) ⟨rfl, trivial⟩),
   hR 3 rfl rfl (r_min (k := .i64) (a := max n 0) (b := 4294967295) (lt_of rfl) ⟨rfl, trivial⟩),
   hR 4 rfl rfl (r_conv (u := .int .i64 (min (max n 0) 4294967295)) (v := .int .u64 ((cntN n : Nat) : Int)) (c_int Tryz.underlying3 Tryz.underlying120 (by rw [IntKind.wrap_u64]; unfold cntN; omega)) (lt_of rfl) trivial),
   hR 5 rfl rfl (rCa (wire_spell tb nb b (cntN n) 3 ‹_› (by omega) (by omega)) Tryz.func130 [0] [(.tmp 5, slV tb nb kU8 b), (.tmp 9, dv (.int .u64 ((cntN n : Nat) : Int))), (.const (.int .i64 4), vI 4)] 0 1)] ?_
 refine T.ret ?_
 exact eRt 4 (.one (.own 0 kU8.sz 0 (b ++ (spellB (cntN n) 4)).length)) [0] (congrArg (fun (q1 : Nat) => (ownV 0 kU8 0 q1 : AV)) (by rfl)) ⟨⟨rfl, (by have e1 : (b ++ (spellB (cntN n) 4) : List UInt8) = b ++ cntB n := (by rfl); have hE := congrArg (fun (q1 : List UInt8) => (.live (arrK 5 kU8 q1) : HS)) e1; exact Eq.trans (by kernel_rfl) hE)⟩, trivial⟩
theorem wire_PutBytes (tb : Bool) (nb : Bool) (b : List UInt8) (tx : Bool) (nx : Bool) (x : List UInt8) (hb : b.length + x.length ≤ 140737488355000) : Holds Tryz.prog 120 ⟨[slV tb nb kU8 b, slV tx nx kU8 x], [], ownV 0 kU8 0 (b ++ bytesB x).length, [.live (arrK 5 kU8 (b ++ bytesB x))]⟩ := by
 refine Holds.of Tryz.func120 rfl (N := 11) Tryz.ntmps120 rfl fun w0 B0 S0 U0 => ?_
 show T _ (mkBase 11 0 w0 S0 U0 B0) ⟨[slV tb nb kU8 b, slV tx nx kU8 x], []⟩ _ _
 have hcl := cnt_len ((x.length : Nat) : Int)
 refine sR [] ?_
 refine sR [hR 3 rfl rfl (rCa (wire_PutCount tb nb b ((x.length : Nat) : Int) (by omega)) Tryz.func122 [0] [(.tmp 5, slV tb nb kU8 b), (.tmp 7, vI ((x.length : Nat) : Int))] 0 1),
   hR 5 rfl rfl (q_appendO 0 1 5 1 kU8 kU8_ok (b ++ cntB ((x.length : Nat) : Int)) x (b ++ cntB ((x.length : Nat) : Int) ++ x) (b ++ cntB ((x.length : Nat) : Int)).length (sy := (.d (dsl tx nx kU8 x))) (rhs := []) elem_33 (by omega) (src_sl tx nx kU8 x) (by rw [List.take_length]) (by (simp [maxLen, -List.getD_eq_getElem?_getD] <;> omega)) (by (simp [maxLen, -List.getD_eq_getElem?_getD] <;> omega)) (lt_of rfl) trivial)] ?_
 refine T.ret ?_
 exact eRt 4 (.one (.own 1 kU8.sz 0 (b ++ cntB ((x.length : Nat) : Int) ++ x).length)) [1] (by have e1 : ((b ++ bytesB x).length : Nat) = (b ++ cntB ((x.length : Nat) : Int) ++ x).length := (by (simp only [bytesB, List.append_assoc])); have hE := congrArg (fun (q1 : Nat) => (ownV 1 kU8 0 q1 : AV)) e1; exact hE) ⟨⟨rfl, (by have e1 : (b ++ cntB ((x.length : Nat) : Int) ++ x : List UInt8) = b ++ bytesB x := (by (simp only [bytesB, List.append_assoc])); have hE := congrArg (fun (q1 : List UInt8) => (.live (arrK 5 kU8 q1) : HS)) e1; exact Eq.trans (by kernel_rfl) hE)⟩, trivial⟩
abbrev Zz (n : Nat) : AV := dv (.int .u64 ((n : Nat) : Int))
abbrev Z10 (m : Nat) : AV := vI ((m : Nat) : Int)
abbrev Z11 (n : Nat) (j : Nat) : SV := .d (.val (.int .u8 (((UInt8.ofNat (n / 2 ^ (8 * (((j : Nat) : Int) - 1)).toNat)).toNat : Nat) : Int)))
theorem ref01_bits (tb : Bool) (nb : Bool) (b : List UInt8) (n : Nat) (m : Nat) (hb : b.length ≤ 140737488355000) (hn : n < 18446744073709551616) (hm : m ≤ 8) : Holds Tryz.prog 66 ⟨[slV tb nb kU8 b, dv (.int .u64 ((n : Nat) : Int)), vI ((m : Nat) : Int)], [], ownV 0 kU8 0 (b ++ (spellB n m)).length, [.live (arrK 5 kU8 (b ++ (spellB n m)))]⟩ := by
 refine Holds.of Tryz.func66 rfl (N := 27) Tryz.ntmps66 rfl fun w0 B0 S0 U0 => ?_
 show T _ (mkBase 27 0 w0 S0 U0 B0) ⟨[slV tb nb kU8 b, (Zz n), (Z10 m)], []⟩ _ _
 refine sR [] ?_
 refine sR [hR 0 rfl rfl (q_buildSlice 0 5 kU8 kU8_ok ([] : List UInt8) [] (cs := []) Tryz.underlying33 iat_5 rfl zero_5 rfl rfl rfl (Nat.le_of_ble_eq_true rfl) part_ok (by kernel_rfl) (wk_eq (by kernel_rfl)) (lt_of rfl) trivial),
   hR 2 rfl rfl (q_appendO 0 1 5 1 kU8 kU8_ok ([] : List UInt8) b b ([] : List UInt8).length (sy := (.d (dsl tb nb kU8 b))) (rhs := []) elem_33 (by omega) (src_sl tb nb kU8 b) (by simp) (by (simp [maxLen, -List.getD_eq_getElem?_getD] <;> omega)) (by (simp [maxLen, -List.getD_eq_getElem?_getD] <;> omega)) (lt_of rfl) trivial)] ?_
 refine T.seq ?_
 refine sR [hR 1 rfl rfl (r_bin (u1 := .int .i64 ((m : Nat) : Int)) (u2 := .int .i64 1) (v := .int .i64 (((m : Nat) : Int) - 1)) (b_sub (by rw [IntKind.wrap_i64]; omega)) (lt_of rfl) ⟨rfl, trivial⟩)] ?_
 refine T.block ?_
 refine T.loop (ι := Nat × (List UInt8)) (fun (x_ : Nat × (List UInt8)) => ⟨[slV tb nb kU8 b, (Zz n), (Z10 m), aa, aa, aa, dv (.slice none 0 0), ownV 1 kU8 0 x_.2.length, vI (((x_.1 : Nat) : Int) - 1)], [.dead, .live (arrK 5 kU8 x_.2)]⟩) (fun (x_ : Nat × (List UInt8)) => (x_.1 ≤ m) ∧ (x_.2 ++ spellB n x_.1 = b ++ spellB n m)) (fun (x_ : Nat × (List UInt8)) => x_.1) (m, b) ⟨(Nat.le_refl _), rfl⟩ (fun _ _ hG => Gs.i2 [3, 1] (bm 9 455) (t1 := [slV tb nb kU8 b, (Zz n), (Z10 m), aa, aa, aa, dv (.slice none 0 0), ownV 1 kU8 0 b.length, vI (((m : Nat) : Int) - 1)]) (h1 := [.dead, .live (arrK 5 kU8 b)]) rfl rfl hG) ?_
 rintro ⟨j, acc⟩ ⟨hj, he⟩
 show T _ _ ⟨[slV tb nb kU8 b, (Zz n), (Z10 m), aa, aa, aa, dv (.slice none 0 0), ownV 1 kU8 0 acc.length, vI (((j : Nat) : Int) - 1)], [.dead, .live (arrK 5 kU8 acc)]⟩ _ _
 replace hj : j ≤ m := hj
 replace he : acc ++ spellB n j = b ++ spellB n m := he
 have hacc := spell_lenE he
 refine T.seq ?_
 refine sR [] ?_
 by_cases hq1 : (((j : Nat) : Int) - 1) ≥ 0
 ·refine cT (dT hq1) ?_
  refine T.skip (nT (T.seq ?_))
  refine T.block ?_
  refine xR [hR 3 rfl rfl (r_bin (u1 := .int .i64 8) (u2 := .int .i64 (((j : Nat) : Int) - 1)) (v := .int .i64 (8 * (((j : Nat) : Int) - 1))) (b_mul (by rw [IntKind.wrap_i64]; omega)) (lt_of rfl) ⟨rfl, trivial⟩),
    hR 4 rfl rfl (r_bin (u1 := .int .u64 ((n : Nat) : Int)) (u2 := .int .i64 (8 * (((j : Nat) : Int) - 1))) (v := .int .u64 ((n / 2 ^ (8 * (((j : Nat) : Int) - 1)).toNat : Nat) : Int)) (b_shrN (n := (8 * (((j : Nat) : Int) - 1)).toNat) (by omega) (Nat.le_trans (by omega) (by decide : 64 ≤ _))) (lt_of rfl) trivial),
    hR 5 rfl rfl (r_conv (u := .int .u64 ((n / 2 ^ (8 * (((j : Nat) : Int) - 1)).toNat : Nat) : Int)) (v := .int .u8 (((UInt8.ofNat (n / 2 ^ (8 * (((j : Nat) : Int) - 1)).toNat)).toNat : Nat) : Int)) (c_byte Tryz.underlying120 Tryz.underlying5) (lt_of rfl) trivial),
    hR 6 rfl rfl (q_buildSlice 2 5 kU8 kU8_ok [(UInt8.ofNat (n / 2 ^ (8 * (((j : Nat) : Int) - 1)).toNat))] [⟨0, .tmp 23, .one ((Z11 n j)), 0⟩] (cs := [(Z11 n j)]) Tryz.underlying33 iat_5 rfl zero_5 rfl rfl rfl (Nat.le_of_ble_eq_true rfl) (part_cons rfl rfl (Nat.le_of_ble_eq_true rfl) part_ok) (by kernel_rfl) (wk_eq (by kernel_rfl)) (lt_of rfl) trivial),
    hR 7 rfl rfl (q_appendO 1 3 5 1 kU8 kU8_ok acc [(UInt8.ofNat (n / 2 ^ (8 * (((j : Nat) : Int) - 1)).toNat))] (acc ++ [(UInt8.ofNat (n / 2 ^ (8 * (((j : Nat) : Int) - 1)).toNat))]) acc.length (sy := (.own 2 kU8.sz 0 [(UInt8.ofNat (n / 2 ^ (8 * (((j : Nat) : Int) - 1)).toNat))].length)) (rhs := [(2, .live (arrK 5 kU8 [(UInt8.ofNat (n / 2 ^ (8 * (((j : Nat) : Int) - 1)).toNat))]))]) elem_33 (by omega) (src_own 2 5 kU8 [(UInt8.ofNat (n / 2 ^ (8 * (((j : Nat) : Int) - 1)).toNat))]) (by rw [List.take_length]) (by (simp [maxLen, -List.getD_eq_getElem?_getD] <;> omega)) (by (simp [maxLen, -List.getD_eq_getElem?_getD] <;> omega)) (lt_of rfl) trivial)] (by kernel_rfl) (by kernel_rfl) ?_
  refine nB ?_
  refine nT ?_
  refine xK [hR 1 rfl rfl (r_bin (u1 := .int .i64 (((j : Nat) : Int) - 1)) (u2 := .int .i64 1) (v := .int .i64 ((((j : Nat) : Int) - 1) - 1)) (b_sub (by rw [IntKind.wrap_i64]; omega)) (lt_of rfl) ⟨rfl, trivial⟩)] ?_
  refine nL (j - 1, acc ++ [UInt8.ofNat (n / 2 ^ (8 * (((j : Nat) : Int) - 1)).toNat)]) ⟨(show (j - 1) ≤ m from (by omega)), (show (acc ++ [UInt8.ofNat (n / 2 ^ (8 * (((j : Nat) : Int) - 1)).toNat)]) ++ spellB n (j - 1) = b ++ spellB n m from (spell_stepI he (by omega)))⟩ (show ((j - 1) : Nat) < j from (by omega)) (fun _ _ hG => Gs.i2 [5, 3] (bm 9 455) (t1 := [slV tb nb kU8 b, (Zz n), (Z10 m), aa, aa, aa, dv (.slice none 0 0), ownV 3 kU8 0 (acc ++ [UInt8.ofNat (n / 2 ^ (8 * (((j : Nat) : Int) - 1)).toNat)]).length, vI (((j - 1 : Nat) : Int) - 1)]) (t2 := [slV tb nb kU8 b, (Zz n), (Z10 m), aa, aa, aa, dv (.slice none 0 0), ownV 3 kU8 0 (acc ++ [(UInt8.ofNat (n / 2 ^ (8 * (((j : Nat) : Int) - 1)).toNat))]).length, vI ((((j : Nat) : Int) - 1) - 1)]) (h1 := [.dead, .live (arrK 5 kU8 (acc ++ [UInt8.ofNat (n / 2 ^ (8 * (((j : Nat) : Int) - 1)).toNat)]))]) (h2 := [.dead, .live (arrK 5 kU8 (acc ++ [(UInt8.ofNat (n / 2 ^ (8 * (((j : Nat) : Int) - 1)).toNat))]))]) (cg2 (fun (q1 : Nat) (q2 : Int) => ([slV tb nb kU8 b, (Zz n), (Z10 m), aa, aa, aa, dv (.slice none 0 0), ownV 3 kU8 0 q1, vI q2] : List AV)) (by rfl) (by omega)) (congrArg (fun (q1 : List UInt8) => ([.dead, .live (arrK 5 kU8 q1)] : List HS)) (by rfl)) hG)
 refine cF (dF hq1) ?_
 refine T.exit ?_
 refine xT ?_
 refine xT ?_
 refine xH ?_
 refine nT ?_
 refine sR [] ?_
 refine T.ret ?_
 exact eRt 6 (.one (.own 1 kU8.sz 0 acc.length)) [1] (by have e1 : ((b ++ (spellB n m)).length : Nat) = acc.length := (by (rw [spell_end he (by omega)])); have hE := congrArg (fun (q1 : Nat) => (ownV 1 kU8 0 q1 : AV)) e1; exact hE) ⟨⟨rfl, (by have e1 : (acc : List UInt8) = b ++ (spellB n m) := (by (rw [spell_end he (by omega)])); have hE := congrArg (fun (q1 : List UInt8) => (.live (arrK 5 kU8 q1) : HS)) e1; exact Eq.trans (by kernel_rfl) hE)⟩, trivial⟩
theorem ref01_Int (tb : Bool) (nb : Bool) (b : List UInt8) (n : Int) (hb : b.length ≤ 140737488355000) : Holds Tryz.prog 45 ⟨[slV tb nb kU8 b, vI n], [], ownV 0 kU8 0 (b ++ intB n).length, [.live (arrK 5 kU8 (b ++ intB n))]⟩ := by
 refine Holds.of Tryz.func45 rfl (N := 9) Tryz.ntmps45 rfl fun w0 B0 S0 U0 => ?_
 show T _ (mkBase 9 0 w0 S0 U0 B0) ⟨[slV tb nb kU8 b, vI n], []⟩ _ _
 have hn := u64_lt n
 refine sR [] ?_
 refine sR [hR 2 rfl rfl (r_conv (u := .int .i64 n) (v := .int .u64 ((u64 n : Nat) : Int)) (c_u64 Tryz.underlying2 Tryz.underlying120) (lt_of rfl) trivial),
   hR 3 rfl rfl (rCa (ref01_bits tb nb b (u64 n) 8 ‹_› ‹_› (by omega)) Tryz.func66 [0] [(.tmp 5, slV tb nb kU8 b), (.tmp 7, dv (.int .u64 ((u64 n : Nat) : Int))), (.const (.int .i64 8), vI 8)] 0 1)] ?_
 refine T.ret ?_
 exact eRt 4 (.one (.own 0 kU8.sz 0 (b ++ (spellB (u64 n) 8)).length)) [0] (congrArg (fun (q1 : Nat) => (ownV 0 kU8 0 q1 : AV)) (by rfl)) ⟨⟨rfl, (by have e1 : (b ++ (spellB (u64 n) 8) : List UInt8) = b ++ intB n := (by rfl); have hE := congrArg (fun (q1 : List UInt8) => (.live (arrK 5 kU8 q1) : HS)) e1; exact Eq.trans (by kernel_rfl) hE)⟩, trivial⟩
theorem ref01_Count (tb : Bool) (nb : Bool) (b : List UInt8) (n : Int) (hb : b.length ≤ 140737488355000) : Holds Tryz.prog 48 ⟨[slV tb nb kU8 b, vI n], [], ownV 0 kU8 0 (b ++ cntB n).length, [.live (arrK 5 kU8 (b ++ cntB n))]⟩ := by
 refine Holds.of Tryz.func48 rfl (N := 11) Tryz.ntmps48 rfl fun w0 B0 S0 U0 => ?_
 show T _ (mkBase 11 0 w0 S0 U0 B0) ⟨[slV tb nb kU8 b, vI n], []⟩ _ _
 have hn := cntN_lt n
 refine sR [] ?_
 refine sR [hR 2 rfl rfl (r_min (k := .i64) (a := n) (b := 4294967295) (lt_of rfl) ⟨rfl, trivial⟩),
   hR 3 rfl rfl (r_max (k := .i64) (a := 0) (b := min n 4294967295) (lt_of rfl) ⟨rfl, trivial⟩),
   hR 4 rfl rfl (r_conv (u := .int .i64 (max 0 (min n 4294967295))) (v := .int .u64 ((cntN n : Nat) : Int)) (c_int Tryz.underlying3 Tryz.underlying120 (by rw [IntKind.wrap_u64]; unfold cntN; omega)) (lt_of rfl) trivial),
   hR 5 rfl rfl (rCa (ref01_bits tb nb b (cntN n) 4 ‹_› (by omega) (by omega)) Tryz.func66 [0] [(.tmp 5, slV tb nb kU8 b), (.tmp 9, dv (.int .u64 ((cntN n : Nat) : Int))), (.const (.int .i64 4), vI 4)] 0 1)] ?_
 refine T.ret ?_
 exact eRt 4 (.one (.own 0 kU8.sz 0 (b ++ (spellB (cntN n) 4)).length)) [0] (congrArg (fun (q1 : Nat) => (ownV 0 kU8 0 q1 : AV)) (by rfl)) ⟨⟨rfl, (by have e1 : (b ++ (spellB (cntN n) 4) : List UInt8) = b ++ cntB n := (by rfl); have hE := congrArg (fun (q1 : List UInt8) => (.live (arrK 5 kU8 q1) : HS)) e1; exact Eq.trans (by kernel_rfl) hE)⟩, trivial⟩
theorem ref01_Bytes (tb : Bool) (nb : Bool) (b : List UInt8) (tx : Bool) (nx : Bool) (x : List UInt8) (hb : b.length + x.length ≤ 140737488355000) : Holds Tryz.prog 46 ⟨[slV tb nb kU8 b, slV tx nx kU8 x], [], ownV 0 kU8 0 (b ++ bytesB x).length, [.live (arrK 5 kU8 (b ++ bytesB x))]⟩ := by
 refine Holds.of Tryz.func46 rfl (N := 13) Tryz.ntmps46 rfl fun w0 B0 S0 U0 => ?_
 show T _ (mkBase 13 0 w0 S0 U0 B0) ⟨[slV tb nb kU8 b, slV tx nx kU8 x], []⟩ _ _
 have hcl := cnt_len ((x.length : Nat) : Int)
 refine sR [] ?_
 refine sR [hR 3 rfl rfl (rCa (ref01_Count tb nb b ((x.length : Nat) : Int) (by omega)) Tryz.func48 [0] [(.tmp 6, slV tb nb kU8 b), (.tmp 8, vI ((x.length : Nat) : Int))] 0 1)] ?_
 refine sR [hR 2 rfl rfl (q_appendO 0 1 5 1 kU8 kU8_ok (b ++ cntB ((x.length : Nat) : Int)) x (b ++ cntB ((x.length : Nat) : Int) ++ x) (b ++ cntB ((x.length : Nat) : Int)).length (sy := (.d (dsl tx nx kU8 x))) (rhs := []) elem_33 (by omega) (src_sl tx nx kU8 x) (by rw [List.take_length]) (by (simp [maxLen, -List.getD_eq_getElem?_getD] <;> omega)) (by (simp [maxLen, -List.getD_eq_getElem?_getD] <;> omega)) (lt_of rfl) trivial)] ?_
 refine T.ret ?_
 exact eRt 4 (.one (.own 1 kU8.sz 0 (b ++ cntB ((x.length : Nat) : Int) ++ x).length)) [1] (by have e1 : ((b ++ bytesB x).length : Nat) = (b ++ cntB ((x.length : Nat) : Int) ++ x).length := (by (simp only [bytesB, List.append_assoc])); have hE := congrArg (fun (q1 : Nat) => (ownV 1 kU8 0 q1 : AV)) e1; exact hE) ⟨⟨rfl, (by have e1 : (b ++ cntB ((x.length : Nat) : Int) ++ x : List UInt8) = b ++ bytesB x := (by (simp only [bytesB, List.append_assoc])); have hE := congrArg (fun (q1 : List UInt8) => (.live (arrK 5 kU8 q1) : HS)) e1; exact Eq.trans (by kernel_rfl) hE)⟩, trivial⟩
section
variable (tb : Bool) (nb : Bool) (b : List UInt8) (k : Nat)
abbrev Z12 : AV := vI ((b.length : Nat) : Int)
abbrev Z13 : St := ⟨[slV tb nb kU8 b, aa, dv (.int .u64 ((numL (b.take k) : Nat) : Int)), aa, aa, slV tb nb kU8 b, (Z12 b), vI ((k : Nat) : Int)], []⟩
abbrev Z15 : AV := vI ((k + 1 : Nat) : Int)
end
theorem wire_number (tb : Bool) (nb : Bool) (b : List UInt8) (hb : b.length ≤ 8) : Holds Tryz.prog 127 ⟨[slV tb nb kU8 b], [], dv (.int .u64 ((numL b : Nat) : Int)), []⟩ := by
 refine Holds.of Tryz.func127 rfl (N := 18) Tryz.ntmps127 rfl fun w0 B0 S0 U0 => ?_
 show T _ (mkBase 18 0 w0 S0 U0 B0) ⟨[slV tb nb kU8 b], []⟩ _ _
 refine sR [] ?_
 refine T.seq ?_
 refine sR [] ?_
 refine T.block ?_
 refine T.loop (ι := Nat) (fun (k : Nat) => (Z13 tb nb b k)) (fun (k : Nat) => (k ≤ b.length)) (fun (k : Nat) => b.length - k) (0) (Nat.zero_le _) (fun _ _ hG => Gs.iI [] (bm 8 229) (t2 := [slV tb nb kU8 b, aa, dv (.int .u64 0), aa, aa, slV tb nb kU8 b, (Z12 b), vI 0]) (congrArg (fun (q1 : Int) => ([slV tb nb kU8 b, aa, dv (.int .u64 q1), aa, aa, slV tb nb kU8 b, (Z12 b), vI 0] : List AV)) (by rfl)) rfl hG) ?_
 rintro k hk
 show T _ _ (Z13 tb nb b k) _ _
 replace hk : k ≤ b.length := hk
 have hk8 : numL (b.take k) < 18446744073709551616 := numL_lt8 (by simp only [List.length_take]; omega)
 refine sR [] ?_
 refine T.seq ?_
 by_cases hq1 : ((k : Nat) : Int) < ((b.length : Nat) : Int)
 ·have hk7 : numL (b.take k) < 72057594037927936 := numL_lt7 (by simp only [List.length_take]; omega); have hbt := UInt8.toNat_lt (b.getD k 0)
  refine cT (dT hq1) ?_
  refine T.skip (nT (T.seq ?_))
  refine T.block ?_
  refine sR [hR 0 rfl rfl (q_index tb nb kU8 b k (k := .i64) (i := ((k : Nat) : Int)) Tryz.underlying33 iat_5 rfl rfl (by omega) (lt_of rfl) trivial)] ?_
  refine xR [hR 1 rfl rfl (r_bin (u1 := .int .u64 ((numL (b.take k) : Nat) : Int)) (u2 := .int .u64 8) (v := .int .u64 (((numL (b.take k)) * 2 ^ 8 : Nat) : Int)) (b_shlN (n := 8) rfl (Nat.le_trans (by omega) (by decide : 64 ≤ _)) (by (rw [IntKind.wrap_u64]; omega))) (lt_of rfl) ⟨rfl, trivial⟩),
    hR 3 rfl rfl (r_conv (u := .int .u8 (((b.getD k 0).toNat : Nat) : Int)) (v := .int .u64 (((b.getD k 0).toNat : Nat) : Int)) (c_int Tryz.underlying5 Tryz.underlying120 (by (rw [IntKind.wrap_u64]; omega))) (lt_of rfl) trivial),
    hR 4 rfl rfl (r_bin (u1 := .int .u64 (((numL (b.take k)) * 2 ^ 8 : Nat) : Int)) (u2 := .int .u64 (((b.getD k 0).toNat : Nat) : Int)) (v := .int .u64 ((((numL (b.take k)) * 2 ^ 8) ||| (b.getD k 0).toNat : Nat) : Int)) (b_orU (by omega) (by omega)) (lt_of rfl) trivial)] (by kernel_rfl) (by kernel_rfl) ?_
  refine nB ?_
  refine nT ?_
  refine xK [hR 0 rfl rfl (r_bin (u1 := .int .i64 ((k : Nat) : Int)) (u2 := .int .i64 1) (v := .int .i64 ((k + 1 : Nat) : Int)) (b_add (by rw [IntKind.wrap_i64]; omega)) (lt_of rfl) ⟨rfl, trivial⟩)] ?_
  refine nL (k + 1) (show (k + 1) ≤ b.length from (by omega)) (show (b.length - (k + 1) : Nat) < b.length - k from (by omega)) (fun _ _ hG => Gs.iI [] (bm 8 229) (t2 := [slV tb nb kU8 b, aa, dv (.int .u64 ((((numL (b.take k)) * 2 ^ 8) ||| (b.getD k 0).toNat : Nat) : Int)), aa, aa, slV tb nb kU8 b, (Z12 b), (Z15 k)]) (by have e1 : (((numL (b.take (k + 1)) : Nat) : Int) : Int) = ((((numL (b.take k)) * 2 ^ 8) ||| (b.getD k 0).toNat : Nat) : Int) := (by (rw [numL_take (by omega)])); have hE := congrArg (fun (q1 : Int) => ([slV tb nb kU8 b, aa, dv (.int .u64 q1), aa, aa, slV tb nb kU8 b, (Z12 b), (Z15 k)] : List AV)) e1; exact hE) rfl hG)
 refine cF (dF hq1) ?_
 refine T.exit ?_
 refine xT ?_
 refine xT ?_
 refine xH ?_
 refine nT ?_
 refine sR [] ?_
 refine T.ret ?_
 exact eRt 2 (.one (.d (.val (.int .u64 ((numL (b.take k) : Nat) : Int))))) [] (by have e1 : (((numL b : Nat) : Int) : Int) = ((numL (b.take k) : Nat) : Int) := (by (rw [List.take_of_length_le (by omega)])); have hE := congrArg (fun (q1 : Int) => (dv (.int .u64 q1) : AV)) e1; exact hE) trivial
theorem wire_any (tb : Bool) (nb : Bool) (b : List UInt8) : Holds Tryz.prog 115 ⟨[slV tb nb kU8 b], [], vI 0, []⟩ := by
 refine Holds.of Tryz.func115 rfl (N := 3) Tryz.ntmps115 rfl fun w0 B0 S0 U0 => ?_
 show T _ (mkBase 3 0 w0 S0 U0 B0) ⟨[slV tb nb kU8 b], []⟩ _ _
 refine sR [] ?_
 refine sR [] ?_
 refine T.ret ?_
 exact eRt 2 (.one (dI 0)) [] rfl trivial
end Go.Proofs.YtalapplihdmenaaGreat.Q
