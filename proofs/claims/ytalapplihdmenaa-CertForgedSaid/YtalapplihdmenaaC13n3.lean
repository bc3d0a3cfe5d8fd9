import Derived.Test.YtalapplihdmenaaC13n2
namespace Go.Proofs.Ytalapplihdmenaa.Q
open Go Go.RowKit
set_option linter.unusedVariables false
set_option linter.unusedSimpArgs false
set_option maxRecDepth 100000
set_option maxHeartbeats 4000000
theorem elem_31 : Elem Try.prog 31 40 2 32 := ⟨Try.underlying31, _, _, iat_40, rfl, rfl, rfl, rfl, by decide⟩
section
variable (f : Int) (u : Int) (l : List api_Envelope) (s : Int) (tb : Bool) (nb : Bool) (b : List UInt8)
abbrev z67fa_0 : HS := .live (.box 83 [dB true, dI f, dI u, .own 1 (k_api_Envelope false).sz 0 l.length])
abbrev z67fa_1 : HObj := arrK 40 (k_api_Envelope false) l
abbrev z67fa_2 : HS := .live ((z67fa_1 l))
abbrev z67fa_3 : AV := vB (!(decide (isKnown f u s)))
abbrev z67fa_4 : AV := vB (decide (((b.length : Nat) : Int) > 16777216))
abbrev z67fa_5 : List AV := [pv 0 0, vI s, slV tb nb kU8 b, aa, aa, aa, pv 2 0, vI 11, aa, aa, aa, aa, (z67fa_3 f u s), aa, aa, aa, (z67fa_4 b)]
abbrev z67fa_6 : HS := .live (.box 40 [dI 0, .d (.val (.slice none 0 0))])
abbrev z67fa_7 : HS := .live (.box 83 [dB true, dI f, dI u, .own 3 (k_api_Envelope false).sz 0 l.length])
abbrev z67fa_8 : List HS := [(z67fa_7 f u l), .dead, z67fa_6, (z67fa_2 l)]
abbrev z67fa_9 : SV := .d (dsl false false kU8 ([] : List UInt8))
abbrev z67fa_a : List SV := [dI 0, z67fa_9]
abbrev z67fa_b : List AV := [pv 0 0, vI s, slV tb nb kU8 b, aa, aa, aa, pv 2 0, vI 0, pv 5 0, aa, aa, aa, (z67fa_3 f u s), aa, aa, aa, (z67fa_4 b)]
abbrev z67fa_c : List SV := [dI s, .d (dsl false false kU8 b)]
abbrev z67fa_d : HS := .live (.box 40 (z67fa_c s b))
abbrev z67fa_e : List AV := [pv 0 0, vI s, slV tb nb kU8 b, aa, aa, aa, pv 2 0, vI 0, pv 5 0, aa, aa, aa, (z67fa_3 f u s), aa, aa, aa, (z67fa_4 b), aa, aa, aa, aa, aa, aa, aa, aa, aa, vB (!(decide ((api_Envelope.mk s b) ∈ l)))]
abbrev z67fa_f : List AV := [pv 0 0, vI s, slV tb nb kU8 b, aa, aa, aa, pv 2 0, vI 30, aa, aa, aa, aa, (z67fa_3 f u s)]
end
theorem ref03_Sign (f : Int) (u : Int) (l : List api_Envelope) (s : Int) (tb : Bool) (nb : Bool) (b : List UInt8) (hf : 0 ≤ f ∧ f ≤ 2) (hu : 0 ≤ u ∧ u ≤ 8) (hs : -9223372036854775808 ≤ s ∧ s ≤ 9223372036854775807) (hb : b.length ≤ 140737488355328) (hl : l.length ≤ 2147483648) : Holds Try.prog 49 ⟨[pv 0 0, vI s, slV tb nb kU8 b], [.box 83 [dB true, dI f, dI u, .own 1 (k_api_Envelope false).sz 0 l.length], arrK 40 (k_api_Envelope false) l], .tup [.agg [dI (signV f u s b).f_Signer, .d (dsl false false kU8 (signV f u s b).f_Body)], .one (dI (signE f u s b))], [.live (.box 83 [dB true, dI f, dI u, .own 2 (k_api_Envelope false).sz 0 (signL f u l s b).length]), .dead, .live (arrK 40 (k_api_Envelope false) (signL f u l s b))]⟩ := by
 refine Holds.of Try.func49 rfl (N := 38) Try.ntmps49 rfl fun w0 B0 S0 U0 => ?_
 show T _ (mkBase 38 2 w0 S0 U0 B0) ⟨[pv 0 0, vI s, slV tb nb kU8 b], [(z67fa_0 f u l), (z67fa_2 l)]⟩ _ _
 refine sR [] ?_
 refine T.seq ?_
 refine sR [hR 2 rfl rfl (rCa (ref03_Known f u l s (by assumption) (by assumption) (by assumption)) Try.func68 [0, 1] [(.tmp 9, pv 0 0), (.tmp 10, vI s)] 2 2)] ?_
 by_cases hq1 : isKnown f u s
 ·refine cF (congrArg Bool.not (decide_eq_true hq1)) ?_
  refine T.skip (nT (T.seq ?_))
  refine sR [] ?_
  by_cases hq2 : ((b.length : Nat) : Int) > 16777216
  ·refine cT (decide_eq_true hq2) ?_
   refine sR [] ?_
   refine T.ret (rT ?_)
   refine Ends.turn (s' := ⟨(z67fa_5 f u s tb nb b), [(z67fa_0 f u l), (z67fa_2 l), z67fa_6]⟩) (fun _ _ hG => Gs.norm (by kernel_rfl) hG) ?_
   refine Ends.turn (s' := ⟨(z67fa_5 f u s tb nb b), (z67fa_8 f u l)⟩) (fun _ _ hG => Gs.move (s := ⟨(z67fa_5 f u s tb nb b), [(z67fa_0 f u l), (z67fa_2 l), z67fa_6]⟩) 1 3 (o := (z67fa_1 l)) rfl rfl rfl ⟨.inl rfl, (kk16 trivial)⟩ ⟨(.inr (.inr ⟨by decide, by decide, (.inr ⟨rfl, ⟨.inl rfl, (kk2 ⟨(.inr rfl), trivial⟩)⟩⟩)⟩)), ⟨(.inl ⟨rfl, rfl⟩), ⟨(.inr (.inr ⟨by decide, by decide, (.inl rfl)⟩)), ⟨(.inr (.inl ⟨rfl, rfl⟩)), trivial⟩⟩⟩⟩ hG) ?_
   refine Ends.turn (s' := ⟨(z67fa_5 f u s tb nb b), (z67fa_8 f u l)⟩) (fun _ _ hG => Gs.norm (by kernel_rfl) hG) ?_
   refine Ends.turn (s' := ⟨(z67fa_5 f u s tb nb b), [(z67fa_7 f u l), .dead, .live (.box 40 z67fa_a), (z67fa_2 l)]⟩) (fun _ _ hG => Gs.less (s := ⟨(z67fa_5 f u s tb nb b), (z67fa_8 f u l)⟩) ⟨.inl rfl, (kk16 trivial)⟩ (kk2 ⟨(.inr ⟨rfl, ⟨.inl rfl, ⟨(.inr ⟨rfl, rfl, rfl⟩), trivial⟩⟩⟩), ⟨.inl rfl, trivial⟩⟩) hG) ?_
   exact tE (.inl rfl) [.c 6 2 40 0 40 [dI 0, z67fa_9] (.agg z67fa_a), .t 7 (.one (dI 11))] ⟨⟨rfl, rfl, by kernel_rfl, by kernel_rfl, .inl ⟨2, wide_40, rfl, Nat.le_of_ble_eq_true rfl⟩⟩, ⟨⟨rfl, by kernel_rfl⟩, trivial⟩⟩ [0, 1, 3] (by have e1 : ((signV f u s b).f_Signer : Int) = 0 := (by (simp [signE, signV, signL, putL, z_api_Envelope, *]; done)); have e2 : ((signV f u s b).f_Body : List UInt8) = ([] : List UInt8) := (by (simp [signE, signV, signL, putL, z_api_Envelope, *]; done)); have e3 : ((signE f u s b) : Int) = 11 := (by (simp [signE, signV, signL, putL, z_api_Envelope, *]; done)); have hE := congr (congr (congrArg (fun (q1 : Int) (q2 : List UInt8) (q3 : Int) => (.tup [.agg [dI q1, .d (dsl false false kU8 q2)], .one (dI q3)] : AV)) e1) e2) e3; exact hE) rfl rfl rfl rfl rfl ⟨⟨rfl, (by have e1 : (l.length : Nat) = (signL f u l s b).length := (by (simp [signE, signV, signL, putL, z_api_Envelope, *]; done)); have hE := congrArg (fun (q1 : Nat) => (.live (.box 83 [dB true, dI f, dI u, .own 3 (k_api_Envelope false).sz 0 q1]) : HS)) e1; exact Eq.trans (by kernel_rfl) hE)⟩, ⟨⟨rfl, (by have e1 : (l : List api_Envelope) = (signL f u l s b) := (by (simp [signE, signV, signL, putL, z_api_Envelope, *]; done)); have hE := congrArg (fun (q1 : List api_Envelope) => (.live (arrK 40 (k_api_Envelope false) q1) : HS)) e1; exact Eq.trans (by kernel_rfl) hE)⟩, trivial⟩⟩
  refine cF (decide_eq_false hq2) ?_
  refine T.skip (nT ?_)
  refine sR [hR 1 rfl rfl (q_buildSlice 3 5 kU8 kU8_ok ([] : List UInt8) [] (cs := []) Try.underlying33 iat_5 rfl zero_5 rfl rfl rfl (Nat.le_of_ble_eq_true rfl) part_ok (by kernel_rfl) (wk_eq (by kernel_rfl)) (lt_of rfl) trivial),
    hR 3 rfl rfl (q_appendO 3 4 5 1 kU8 kU8_ok ([] : List UInt8) b b ([] : List UInt8).length (sy := (.d (dsl tb nb kU8 b))) (rhs := []) elem_33 (by omega) (src_sl tb nb kU8 b) (by simp) (by (simp [maxLen, -List.getD_eq_getElem?_getD] <;> omega)) (by (simp [maxLen, -List.getD_eq_getElem?_getD] <;> omega)) (lt_of rfl) trivial)] ?_
  refine T.seq ?_
  refine T.turn (s' := ⟨(z67fa_b f u s tb nb b), [(z67fa_0 f u l), (z67fa_2 l), z67fa_6, .dead, .live (arrK 5 kU8 b), .live (.box 40 [dI s, .own 4 kU8.sz 0 b.length])]⟩) (fun _ _ hG => Gs.norm (by kernel_rfl) hG) ?_
  refine T.turn (s' := ⟨(z67fa_b f u s tb nb b), [(z67fa_0 f u l), (z67fa_2 l), z67fa_6, .dead, .dead, (z67fa_d s b)]⟩) (fun _ _ hG => Gs.freeze (s := ⟨(z67fa_b f u s tb nb b), [(z67fa_0 f u l), (z67fa_2 l), z67fa_6, .dead, .live (arrK 5 kU8 b), .live (.box 40 [dI s, .own 4 kU8.sz 0 b.length])]⟩) 4 (el := elOf kU8 b) (sz := kU8.sz) (n := b.length) rfl ⟨.inl rfl, (kk16 trivial)⟩ ⟨(.inr ⟨by decide, .inl rfl⟩), ⟨(.inr ⟨by decide, .inl rfl⟩), ⟨(.inr ⟨by decide, .inl rfl⟩), ⟨(.inr ⟨by decide, .inl rfl⟩), ⟨(.inl ⟨rfl, rfl⟩), ⟨(.inr ⟨by decide, .inr ⟨rfl, ⟨.inl rfl, ⟨(.inr ⟨rfl, rfl, rfl, (fun h => by cases h), rfl, rfl, Nat.le_of_eq (Nat.zero_add _), fun i j _ => by rw [Nat.zero_add]⟩), trivial⟩⟩⟩⟩), trivial⟩⟩⟩⟩⟩⟩ hG) ?_
  refine sR [hR 2 rfl rfl (rCa (ref03_Has f u l false (api_Envelope.mk s b) (by omega)) Try.func69 [0, 1] [(.tmp 23, pv 0 0), (.tmp 24, .tv (.agg (z67fa_c s b)))] 2 2)] ?_
  by_cases hq3 : (api_Envelope.mk s b) ∈ l
  ·refine cF (congrArg Bool.not (decide_eq_true hq3)) ?_
   refine T.skip (nT ?_)
   refine sR [] ?_
   refine T.ret ?_
   refine Ends.turn (s' := ⟨(z67fa_e f u l s tb nb b), [(z67fa_0 f u l), (z67fa_2 l), (z67fa_d s b), .dead, .dead, (z67fa_d s b)]⟩) (fun _ _ hG => Gs.norm (by kernel_rfl) hG) ?_
   refine Ends.turn (s' := ⟨(z67fa_e f u l s tb nb b), [.live (.box 83 [dB true, dI f, dI u, .own 6 (k_api_Envelope false).sz 0 l.length]), .dead, (z67fa_d s b), .dead, .dead, (z67fa_d s b), (z67fa_2 l)]⟩) (fun _ _ hG => Gs.move (s := ⟨(z67fa_e f u l s tb nb b), [(z67fa_0 f u l), (z67fa_2 l), (z67fa_d s b), .dead, .dead, (z67fa_d s b)]⟩) 1 6 (o := (z67fa_1 l)) rfl rfl rfl ⟨.inl rfl, (kk2 (kk8 (kk16 trivial)))⟩ ⟨(.inr (.inr ⟨by decide, by decide, (.inr ⟨rfl, ⟨.inl rfl, (kk2 ⟨(.inr rfl), trivial⟩)⟩⟩)⟩)), ⟨(.inl ⟨rfl, rfl⟩), ⟨(.inr (.inr ⟨by decide, by decide, (.inl rfl)⟩)), ⟨(.inr (.inr ⟨by decide, by decide, (.inl rfl)⟩)), ⟨(.inr (.inr ⟨by decide, by decide, (.inl rfl)⟩)), ⟨(.inr (.inr ⟨by decide, by decide, (.inl rfl)⟩)), ⟨(.inr (.inl ⟨rfl, rfl⟩)), trivial⟩⟩⟩⟩⟩⟩⟩ hG) ?_
   exact tE (.inl rfl) [.c 6 2 40 0 40 [dI s, .d (dsl false false kU8 b)] (.agg (z67fa_c s b)), .t 7 (.one (dI 0))] ⟨⟨rfl, rfl, by kernel_rfl, by kernel_rfl, .inl ⟨2, wide_40, rfl, Nat.le_of_ble_eq_true rfl⟩⟩, ⟨⟨rfl, by kernel_rfl⟩, trivial⟩⟩ [0, 1, 6] (by have e1 : ((signV f u s b).f_Signer : Int) = s := (by (simp [signE, signV, signL, putL, z_api_Envelope, *]; done)); have e2 : ((signV f u s b).f_Body : List UInt8) = b := (by (simp [signE, signV, signL, putL, z_api_Envelope, *]; done)); have e3 : ((signE f u s b) : Int) = 0 := (by (simp [signE, signV, signL, putL, z_api_Envelope, *]; done)); have hE := congr (congr (congrArg (fun (q1 : Int) (q2 : List UInt8) (q3 : Int) => (.tup [.agg [dI q1, .d (dsl false false kU8 q2)], .one (dI q3)] : AV)) e1) e2) e3; exact hE) rfl rfl rfl rfl rfl ⟨⟨rfl, (by have e1 : (l.length : Nat) = (signL f u l s b).length := (by (simp [signE, signV, signL, putL, z_api_Envelope, *]; done)); have hE := congrArg (fun (q1 : Nat) => (.live (.box 83 [dB true, dI f, dI u, .own 6 (k_api_Envelope false).sz 0 q1]) : HS)) e1; exact Eq.trans (by kernel_rfl) hE)⟩, ⟨⟨rfl, (by have e1 : (l : List api_Envelope) = (signL f u l s b) := (by (simp [signE, signV, signL, putL, z_api_Envelope, *]; done)); have hE := congrArg (fun (q1 : List api_Envelope) => (.live (arrK 40 (k_api_Envelope false) q1) : HS)) e1; exact Eq.trans (by kernel_rfl) hE)⟩, trivial⟩⟩
  refine cT (congrArg Bool.not (decide_eq_false hq3)) ?_
  refine xD [[], [], [1], [1, 2], [1, 2, 3], [], [5], [1, 2, 3, 4, 5, 6], [0, 1, 2, 3, 4, 5, 6, 7], [0, 1, 2, 3, 4, 5, 6, 7, 8], [0, 1, 2, 3, 4, 5, 6, 7, 8, 9]] [hR 6 rfl rfl (q_buildSlice 6 40 (k_api_Envelope false) (k_api_Envelope_ok false) [(api_Envelope.mk s b)] [⟨0, .tmp 32, .agg (z67fa_c s b), 0⟩] (cs := [dI s, .d (dsl false false kU8 b)]) Try.underlying31 iat_40 rfl zero_40 rfl rfl rfl (Nat.le_of_ble_eq_true rfl) (part_cons rfl rfl (Nat.le_of_ble_eq_true rfl) part_ok) (by kernel_rfl) (wk_eq (by kernel_rfl)) (lt_of rfl) trivial),
    hR 7 rfl rfl (q_appendO 1 7 40 32 (k_api_Envelope false) (k_api_Envelope_ok false) l [(api_Envelope.mk s b)] (l ++ [(api_Envelope.mk s b)]) l.length (sy := (.own 6 (k_api_Envelope false).sz 0 [(api_Envelope.mk s b)].length)) (rhs := [(6, .live (arrK 40 (k_api_Envelope false) [(api_Envelope.mk s b)]))]) elem_31 (by omega) (src_own 6 40 (k_api_Envelope false) [(api_Envelope.mk s b)]) (by rw [List.take_length]) (by (simp [maxLen, -List.getD_eq_getElem?_getD] <;> omega)) (by (simp [maxLen, -List.getD_eq_getElem?_getD] <;> omega)) (lt_of rfl) trivial)] (by kernel_rfl) (by kernel_rfl) (by kernel_rfl) (by kernel_rfl) (by kernel_rfl) (by kernel_rfl) ?_
  refine nT ?_
  refine sR [] ?_
  refine T.ret ?_
  exact tE (.inl rfl) [.c 6 2 40 0 40 [dI s, .d (dsl false false kU8 b)] (.agg (z67fa_c s b)), .t 7 (.one (dI 0))] ⟨⟨rfl, rfl, by kernel_rfl, by kernel_rfl, .inl ⟨2, wide_40, rfl, Nat.le_of_ble_eq_true rfl⟩⟩, ⟨⟨rfl, by kernel_rfl⟩, trivial⟩⟩ [0, 1, 7] (by have e1 : ((signV f u s b).f_Signer : Int) = s := (by (simp [signE, signV, signL, putL, z_api_Envelope, *]; done)); have e2 : ((signV f u s b).f_Body : List UInt8) = b := (by (simp [signE, signV, signL, putL, z_api_Envelope, *]; done)); have e3 : ((signE f u s b) : Int) = 0 := (by (simp [signE, signV, signL, putL, z_api_Envelope, *]; done)); have hE := congr (congr (congrArg (fun (q1 : Int) (q2 : List UInt8) (q3 : Int) => (.tup [.agg [dI q1, .d (dsl false false kU8 q2)], .one (dI q3)] : AV)) e1) e2) e3; exact hE) rfl rfl rfl rfl rfl ⟨⟨rfl, (by have e1 : ((l ++ [(api_Envelope.mk s b)]).length : Nat) = (signL f u l s b).length := (by (simp [signE, signV, signL, putL, z_api_Envelope, *]; done)); have hE := congrArg (fun (q1 : Nat) => (.live (.box 83 [dB true, dI f, dI u, .own 7 (k_api_Envelope false).sz 0 q1]) : HS)) e1; exact Eq.trans (by kernel_rfl) hE)⟩, ⟨⟨rfl, (by have e1 : (l ++ [(api_Envelope.mk s b)] : List api_Envelope) = (signL f u l s b) := (by (simp [signE, signV, signL, putL, z_api_Envelope, *]; done)); have hE := congrArg (fun (q1 : List api_Envelope) => (.live (arrK 40 (k_api_Envelope false) q1) : HS)) e1; exact Eq.trans (by kernel_rfl) hE)⟩, trivial⟩⟩
 refine cT (congrArg Bool.not (decide_eq_false hq1)) ?_
 refine sR [] ?_
 refine T.ret (rT ?_)
 refine Ends.turn (s' := ⟨(z67fa_f f u s tb nb b), [(z67fa_0 f u l), (z67fa_2 l), z67fa_6]⟩) (fun _ _ hG => Gs.norm (by kernel_rfl) hG) ?_
 refine Ends.turn (s' := ⟨(z67fa_f f u s tb nb b), (z67fa_8 f u l)⟩) (fun _ _ hG => Gs.move (s := ⟨(z67fa_f f u s tb nb b), [(z67fa_0 f u l), (z67fa_2 l), z67fa_6]⟩) 1 3 (o := (z67fa_1 l)) rfl rfl rfl ⟨.inl rfl, (kk4 (kk8 trivial))⟩ ⟨(.inr (.inr ⟨by decide, by decide, (.inr ⟨rfl, ⟨.inl rfl, (kk2 ⟨(.inr rfl), trivial⟩)⟩⟩)⟩)), ⟨(.inl ⟨rfl, rfl⟩), ⟨(.inr (.inr ⟨by decide, by decide, (.inl rfl)⟩)), ⟨(.inr (.inl ⟨rfl, rfl⟩)), trivial⟩⟩⟩⟩ hG) ?_
 refine Ends.turn (s' := ⟨(z67fa_f f u s tb nb b), (z67fa_8 f u l)⟩) (fun _ _ hG => Gs.norm (by kernel_rfl) hG) ?_
 refine Ends.turn (s' := ⟨(z67fa_f f u s tb nb b), [(z67fa_7 f u l), .dead, .live (.box 40 z67fa_a), (z67fa_2 l)]⟩) (fun _ _ hG => Gs.less (s := ⟨(z67fa_f f u s tb nb b), (z67fa_8 f u l)⟩) ⟨.inl rfl, (kk4 (kk8 trivial))⟩ (kk2 ⟨(.inr ⟨rfl, ⟨.inl rfl, ⟨(.inr ⟨rfl, rfl, rfl⟩), trivial⟩⟩⟩), ⟨.inl rfl, trivial⟩⟩) hG) ?_
 exact tE (.inl rfl) [.c 6 2 40 0 40 [dI 0, z67fa_9] (.agg z67fa_a), .t 7 (.one (dI 30))] ⟨⟨rfl, rfl, by kernel_rfl, by kernel_rfl, .inl ⟨2, wide_40, rfl, Nat.le_of_ble_eq_true rfl⟩⟩, ⟨⟨rfl, by kernel_rfl⟩, trivial⟩⟩ [0, 1, 3] (by have e1 : ((signV f u s b).f_Signer : Int) = 0 := (by (simp [signE, signV, signL, putL, z_api_Envelope, *]; done)); have e2 : ((signV f u s b).f_Body : List UInt8) = ([] : List UInt8) := (by (simp [signE, signV, signL, putL, z_api_Envelope, *]; done)); have e3 : ((signE f u s b) : Int) = 30 := (by (simp [signE, signV, signL, putL, z_api_Envelope, *]; done)); have hE := congr (congr (congrArg (fun (q1 : Int) (q2 : List UInt8) (q3 : Int) => (.tup [.agg [dI q1, .d (dsl false false kU8 q2)], .one (dI q3)] : AV)) e1) e2) e3; exact hE) rfl rfl rfl rfl rfl ⟨⟨rfl, (by have e1 : (l.length : Nat) = (signL f u l s b).length := (by (simp [signE, signV, signL, putL, z_api_Envelope, *]; done)); have hE := congrArg (fun (q1 : Nat) => (.live (.box 83 [dB true, dI f, dI u, .own 3 (k_api_Envelope false).sz 0 q1]) : HS)) e1; exact Eq.trans (by kernel_rfl) hE)⟩, ⟨⟨rfl, (by have e1 : (l : List api_Envelope) = (signL f u l s b) := (by (simp [signE, signV, signL, putL, z_api_Envelope, *]; done)); have hE := congrArg (fun (q1 : List api_Envelope) => (.live (arrK 40 (k_api_Envelope false) q1) : HS)) e1; exact Eq.trans (by kernel_rfl) hE)⟩, trivial⟩⟩
theorem clip_u8 (tb : Bool) (nb : Bool) (b : List UInt8) : Holds Try.prog 109 ⟨[slV tb nb kU8 b], [], clV tb nb kU8 b, []⟩ := by
 refine Holds.of Try.func109 rfl (N := 9) Try.ntmps109 rfl fun w0 B0 S0 U0 => ?_
 show T _ (mkBase 9 0 w0 S0 U0 B0) ⟨[slV tb nb kU8 b], []⟩ _ _
 refine sR [] ?_
 refine sR [hR 5 rfl rfl (q_clip tb nb kU8 b (p := ((b.length : Nat) : Int)) (q := ((b.length : Nat) : Int)) Try.underlying33 iat_5 rfl (by omega) (by omega) (lt_of rfl) trivial)] ?_
 refine T.ret ?_
 exact eRt 2 (.one (.cl tb nb kU8.sz b.length (elOf kU8 b))) [] rfl trivial
abbrev z9268_0 (n : Nat) : AV := dv (.int .u64 ((n : Nat) : Int))
abbrev z9268_1 (m : Nat) : AV := vI ((m : Nat) : Int)
abbrev z9268_2 (j : Nat) : AV := vI ((j - 1 : Nat) : Int)
theorem wire_spell (tb : Bool) (nb : Bool) (b : List UInt8) (n : Nat) (m : Nat) (hb : b.length ≤ 140737488355000) (hn : n < 18446744073709551616) (hm : m ≤ 7) : Holds Try.prog 104 ⟨[slV tb nb kU8 b, dv (.int .u64 ((n : Nat) : Int)), vI ((m + 1 : Nat) : Int)], [], ownV 0 kU8 0 (b ++ (spellB n (m + 1))).length, [.live (arrK 5 kU8 (b ++ (spellB n (m + 1))))]⟩ := by
 refine Holds.of Try.func104 rfl (N := 22) Try.ntmps104 rfl fun w0 B0 S0 U0 => ?_
 show T _ (mkBase 22 0 w0 S0 U0 B0) ⟨[slV tb nb kU8 b, (z9268_0 n), vI ((m + 1 : Nat) : Int)], []⟩ _ _
 refine sR [] ?_
 refine sR [hR 1 rfl rfl (rCa (clip_u8 tb nb b ) Try.func109 [] [(.tmp 7, slV tb nb kU8 b)] 0 0)] ?_
 refine T.seq ?_
 refine T.block ?_
 refine T.ofTL ?_
 refine TL.peel ?_
 refine T.seq ?_
 refine sR [] ?_
 by_cases hq1 : ((m + 1 : Nat) : Int) > 0
 ·refine cT (decide_eq_true hq1) ?_
  refine T.skip (nT ?_)
  refine T.block ?_
  refine sR [hR 1 rfl rfl (r_bin (u1 := .int .i64 ((m + 1 : Nat) : Int)) (u2 := .int .i64 1) (v := .int .i64 ((m : Nat) : Int)) (b_sub (by rw [IntKind.wrap_i64]; omega)) (lt_of rfl) ⟨rfl, trivial⟩)] ?_
  refine xR [hR 3 rfl rfl (r_bin (u1 := .int .i64 8) (u2 := .int .i64 ((m : Nat) : Int)) (v := .int .i64 ((8 * m : Nat) : Int)) (b_mul (by rw [IntKind.wrap_i64]; omega)) (lt_of rfl) ⟨rfl, trivial⟩),
    hR 4 rfl rfl (r_bin (u1 := .int .u64 ((n : Nat) : Int)) (u2 := .int .i64 ((8 * m : Nat) : Int)) (v := .int .u64 ((n / 2 ^ (8 * m) : Nat) : Int)) (b_shrN (n := 8 * m) rfl (Nat.le_trans (by omega) (by decide : 64 ≤ _))) (lt_of rfl) trivial),
    hR 5 rfl rfl (r_conv (u := .int .u64 ((n / 2 ^ (8 * m) : Nat) : Int)) (v := .int .u8 (((UInt8.ofNat (n / 2 ^ (8 * m))).toNat : Nat) : Int)) (c_byte Try.underlying137 Try.underlying5) (lt_of rfl) trivial),
    hR 6 rfl rfl (q_buildSlice 0 5 kU8 kU8_ok [(UInt8.ofNat (n / 2 ^ (8 * m)))] [⟨0, .tmp 18, .one (.d (.val (.int .u8 (((UInt8.ofNat (n / 2 ^ (8 * m))).toNat : Nat) : Int)))), 0⟩] (cs := [.d (.val (.int .u8 (((UInt8.ofNat (n / 2 ^ (8 * m))).toNat : Nat) : Int)))]) Try.underlying33 iat_5 rfl zero_5 rfl rfl rfl (Nat.le_of_ble_eq_true rfl) (part_cons rfl rfl (Nat.le_of_ble_eq_true rfl) part_ok) (by kernel_rfl) (wk_eq (by kernel_rfl)) (lt_of rfl) trivial),
    hR 7 rfl rfl (q_appendC 1 5 1 tb nb kU8 kU8_ok b [(UInt8.ofNat (n / 2 ^ (8 * m)))] (b ++ [(UInt8.ofNat (n / 2 ^ (8 * m)))]) (sy := (.own 0 kU8.sz 0 [(UInt8.ofNat (n / 2 ^ (8 * m)))].length)) (rhs := [(0, .live (arrK 5 kU8 [(UInt8.ofNat (n / 2 ^ (8 * m)))]))]) elem_33 (by (simp [maxLen, -List.getD_eq_getElem?_getD] <;> omega)) (src_own 0 5 kU8 [(UInt8.ofNat (n / 2 ^ (8 * m)))]) rfl (by (simp [maxLen, -List.getD_eq_getElem?_getD] <;> omega)) (by (simp [maxLen, -List.getD_eq_getElem?_getD] <;> omega)) (lt_of rfl) trivial)] (by kernel_rfl) (by kernel_rfl) ?_
  refine nB ?_
  refine nP ?_
  refine TL.loop (ι := Nat × (List UInt8)) (fun (x_ : Nat × (List UInt8)) => ⟨[ownV 0 kU8 0 x_.2.length, (z9268_0 n), vI ((x_.1 : Nat) : Int)], [.live (arrK 5 kU8 x_.2)]⟩) (fun (x_ : Nat × (List UInt8)) => (x_.1 ≤ m) ∧ (x_.2 ++ spellB n x_.1 = b ++ spellB n (m + 1))) (fun (x_ : Nat × (List UInt8)) => x_.1) (m, b ++ [UInt8.ofNat (n / 2 ^ (8 * m))]) ⟨(Nat.le_refl _), (by rw [List.append_assoc]; rfl)⟩ (fun _ _ hG => Gs.i2 [1] [true, true, true] (t1 := [ownV 1 kU8 0 (b ++ [UInt8.ofNat (n / 2 ^ (8 * m))]).length, (z9268_0 n), (z9268_1 m)]) (t2 := [ownV 1 kU8 0 (b ++ [(UInt8.ofNat (n / 2 ^ (8 * m)))]).length, (z9268_0 n), (z9268_1 m)]) (h1 := [.live (arrK 5 kU8 (b ++ [UInt8.ofNat (n / 2 ^ (8 * m))]))]) (h2 := [.live (arrK 5 kU8 (b ++ [(UInt8.ofNat (n / 2 ^ (8 * m)))]))]) (congrArg (fun (q1 : Nat) => ([ownV 1 kU8 0 q1, (z9268_0 n), (z9268_1 m)] : List AV)) (by rfl)) (congrArg (fun (q1 : List UInt8) => ([.live (arrK 5 kU8 q1)] : List HS)) (by rfl)) hG) ?_
  rintro ⟨j, acc⟩ ⟨hj, he⟩
  show T _ _ ⟨[ownV 0 kU8 0 acc.length, (z9268_0 n), vI ((j : Nat) : Int)], [.live (arrK 5 kU8 acc)]⟩ _ _
  replace hj : j ≤ m := hj
  replace he : acc ++ spellB n j = b ++ spellB n (m + 1) := he
  have hacc := spell_lenE he
  refine T.seq ?_
  refine sR [] ?_
  by_cases hq2 : ((j : Nat) : Int) > 0
  ·refine cT (decide_eq_true hq2) ?_
   refine T.skip (nT ?_)
   refine T.block ?_
   refine sR [hR 1 rfl rfl (r_bin (u1 := .int .i64 ((j : Nat) : Int)) (u2 := .int .i64 1) (v := .int .i64 ((j - 1 : Nat) : Int)) (b_sub (by rw [IntKind.wrap_i64]; omega)) (lt_of rfl) ⟨rfl, trivial⟩)] ?_
   refine xR [hR 3 rfl rfl (r_bin (u1 := .int .i64 8) (u2 := .int .i64 ((j - 1 : Nat) : Int)) (v := .int .i64 ((8 * (j - 1) : Nat) : Int)) (b_mul (by rw [IntKind.wrap_i64]; omega)) (lt_of rfl) ⟨rfl, trivial⟩),
     hR 4 rfl rfl (r_bin (u1 := .int .u64 ((n : Nat) : Int)) (u2 := .int .i64 ((8 * (j - 1) : Nat) : Int)) (v := .int .u64 ((n / 2 ^ (8 * (j - 1)) : Nat) : Int)) (b_shrN (n := 8 * (j - 1)) rfl (Nat.le_trans (by omega) (by decide : 64 ≤ _))) (lt_of rfl) trivial),
     hR 5 rfl rfl (r_conv (u := .int .u64 ((n / 2 ^ (8 * (j - 1)) : Nat) : Int)) (v := .int .u8 (((UInt8.ofNat (n / 2 ^ (8 * (j - 1)))).toNat : Nat) : Int)) (c_byte Try.underlying137 Try.underlying5) (lt_of rfl) trivial),
     hR 6 rfl rfl (q_buildSlice 1 5 kU8 kU8_ok [(UInt8.ofNat (n / 2 ^ (8 * (j - 1))))] [⟨0, .tmp 18, .one (.d (.val (.int .u8 (((UInt8.ofNat (n / 2 ^ (8 * (j - 1)))).toNat : Nat) : Int)))), 0⟩] (cs := [.d (.val (.int .u8 (((UInt8.ofNat (n / 2 ^ (8 * (j - 1)))).toNat : Nat) : Int)))]) Try.underlying33 iat_5 rfl zero_5 rfl rfl rfl (Nat.le_of_ble_eq_true rfl) (part_cons rfl rfl (Nat.le_of_ble_eq_true rfl) part_ok) (by kernel_rfl) (wk_eq (by kernel_rfl)) (lt_of rfl) trivial),
     hR 7 rfl rfl (q_appendO 0 2 5 1 kU8 kU8_ok acc [(UInt8.ofNat (n / 2 ^ (8 * (j - 1))))] (acc ++ [(UInt8.ofNat (n / 2 ^ (8 * (j - 1))))]) acc.length (sy := (.own 1 kU8.sz 0 [(UInt8.ofNat (n / 2 ^ (8 * (j - 1))))].length)) (rhs := [(1, .live (arrK 5 kU8 [(UInt8.ofNat (n / 2 ^ (8 * (j - 1))))]))]) elem_33 (by omega) (src_own 1 5 kU8 [(UInt8.ofNat (n / 2 ^ (8 * (j - 1))))]) (by rw [List.take_length]) (by (simp [maxLen, -List.getD_eq_getElem?_getD] <;> omega)) (by (simp [maxLen, -List.getD_eq_getElem?_getD] <;> omega)) (lt_of rfl) trivial)] (by kernel_rfl) (by kernel_rfl) ?_
   refine nB ?_
   refine nL (j - 1, acc ++ [UInt8.ofNat (n / 2 ^ (8 * (j - 1)))]) ⟨(show (j - 1) ≤ m from (by omega)), (show (acc ++ [UInt8.ofNat (n / 2 ^ (8 * (j - 1)))]) ++ spellB n (j - 1) = b ++ spellB n (m + 1) from (spell_step he (by omega)))⟩ (show ((j - 1) : Nat) < j from (by omega)) (fun _ _ hG => Gs.i2 [2] [true, true, true] (t1 := [ownV 2 kU8 0 (acc ++ [UInt8.ofNat (n / 2 ^ (8 * (j - 1)))]).length, (z9268_0 n), (z9268_2 j)]) (t2 := [ownV 2 kU8 0 (acc ++ [(UInt8.ofNat (n / 2 ^ (8 * (j - 1))))]).length, (z9268_0 n), (z9268_2 j)]) (h1 := [.live (arrK 5 kU8 (acc ++ [UInt8.ofNat (n / 2 ^ (8 * (j - 1)))]))]) (h2 := [.live (arrK 5 kU8 (acc ++ [(UInt8.ofNat (n / 2 ^ (8 * (j - 1))))]))]) (congrArg (fun (q1 : Nat) => ([ownV 2 kU8 0 q1, (z9268_0 n), (z9268_2 j)] : List AV)) (by rfl)) (congrArg (fun (q1 : List UInt8) => ([.live (arrK 5 kU8 q1)] : List HS)) (by rfl)) hG)
  refine cF (decide_eq_false hq2) ?_
  refine T.exit ?_
  refine xT ?_
  refine xT ?_
  refine xH ?_
  refine nT ?_
  refine sR [] ?_
  refine T.ret ?_
  exact eRt 6 (.one (.own 0 kU8.sz 0 acc.length)) [0] (by have e1 : ((b ++ (spellB n (m + 1))).length : Nat) = acc.length := (by (rw [spell_end he (by omega)])); have hE := congrArg (fun (q1 : Nat) => (ownV 0 kU8 0 q1 : AV)) e1; exact hE) ⟨⟨rfl, (by have e1 : (acc : List UInt8) = b ++ (spellB n (m + 1)) := (by (rw [spell_end he (by omega)])); have hE := congrArg (fun (q1 : List UInt8) => (.live (arrK 5 kU8 q1) : HS)) e1; exact Eq.trans (by kernel_rfl) hE)⟩, trivial⟩
 exact absurd (by omega) hq1
theorem wire_PutInt (tb : Bool) (nb : Bool) (b : List UInt8) (n : Int) (hb : b.length ≤ 140737488355000) : Holds Try.prog 84 ⟨[slV tb nb kU8 b, vI n], [], ownV 0 kU8 0 (b ++ intB n).length, [.live (arrK 5 kU8 (b ++ intB n))]⟩ := by
 refine Holds.of Try.func84 rfl (N := 9) Try.ntmps84 rfl fun w0 B0 S0 U0 => ?_
 show T _ (mkBase 9 0 w0 S0 U0 B0) ⟨[slV tb nb kU8 b, vI n], []⟩ _ _
 have hn := u64_lt n
 refine sR [] ?_
 refine sR [hR 2 rfl rfl (r_conv (u := .int .i64 n) (v := .int .u64 ((u64 n : Nat) : Int)) (c_u64 Try.underlying2 Try.underlying137) (lt_of rfl) trivial),
   hR 3 rfl rfl (rCa (wire_spell tb nb b (u64 n) 7 (by assumption) (by assumption) (by omega)) Try.func104 [0] [(.tmp 5, slV tb nb kU8 b), (.tmp 7, dv (.int .u64 ((u64 n : Nat) : Int))), (.const (.int .i64 8), vI 8)] 0 1)] ?_
 refine T.ret ?_
 exact eRt 4 (.one (.own 0 kU8.sz 0 (b ++ (spellB (u64 n) 8)).length)) [0] (congrArg (fun (q1 : Nat) => (ownV 0 kU8 0 q1 : AV)) (by rfl)) ⟨⟨rfl, (by have e1 : (b ++ (spellB (u64 n) 8) : List UInt8) = b ++ intB n := (by rfl); have hE := congrArg (fun (q1 : List UInt8) => (.live (arrK 5 kU8 q1) : HS)) e1; exact Eq.trans (by kernel_rfl) hE)⟩, trivial⟩
theorem wire_PutCount (tb : Bool) (nb : Bool) (b : List UInt8) (n : Int) (hb : b.length ≤ 140737488355000) : Holds Try.prog 85 ⟨[slV tb nb kU8 b, vI n], [], ownV 0 kU8 0 (b ++ cntB n).length, [.live (arrK 5 kU8 (b ++ cntB n))]⟩ := by
 refine Holds.of Try.func85 rfl (N := 11) Try.ntmps85 rfl fun w0 B0 S0 U0 => ?_
 show T _ (mkBase 11 0 w0 S0 U0 B0) ⟨[slV tb nb kU8 b, vI n], []⟩ _ _
 have hn := cntN_lt n
 refine sR [] ?_
 refine sR [hR 2 rfl rfl (r_max (k := .i64) (a := n) (b := 0) (lt_of rfl) ⟨rfl, trivial⟩),
   hR 3 rfl rfl (r_min (k := .i64) (a := max n 0) (b := 4294967295) (lt_of rfl) ⟨rfl, trivial⟩),
   hR 4 rfl rfl (r_conv (u := .int .i64 (min (max n 0) 4294967295)) (v := .int .u64 ((cntN n : Nat) : Int)) (c_int Try.underlying3 Try.underlying137 (by rw [IntKind.wrap_u64]; unfold cntN; omega)) (lt_of rfl) trivial),
   hR 5 rfl rfl (rCa (wire_spell tb nb b (cntN n) 3 (by assumption) (by omega) (by omega)) Try.func104 [0] [(.tmp 5, slV tb nb kU8 b), (.tmp 9, dv (.int .u64 ((cntN n : Nat) : Int))), (.const (.int .i64 4), vI 4)] 0 1)] ?_
 refine T.ret ?_
 exact eRt 4 (.one (.own 0 kU8.sz 0 (b ++ (spellB (cntN n) 4)).length)) [0] (congrArg (fun (q1 : Nat) => (ownV 0 kU8 0 q1 : AV)) (by rfl)) ⟨⟨rfl, (by have e1 : (b ++ (spellB (cntN n) 4) : List UInt8) = b ++ cntB n := (by rfl); have hE := congrArg (fun (q1 : List UInt8) => (.live (arrK 5 kU8 q1) : HS)) e1; exact Eq.trans (by kernel_rfl) hE)⟩, trivial⟩
theorem wire_PutBytes (tb : Bool) (nb : Bool) (b : List UInt8) (tx : Bool) (nx : Bool) (x : List UInt8) (hb : b.length + x.length ≤ 140737488355000) : Holds Try.prog 83 ⟨[slV tb nb kU8 b, slV tx nx kU8 x], [], ownV 0 kU8 0 (b ++ bytesB x).length, [.live (arrK 5 kU8 (b ++ bytesB x))]⟩ := by
 refine Holds.of Try.func83 rfl (N := 11) Try.ntmps83 rfl fun w0 B0 S0 U0 => ?_
 show T _ (mkBase 11 0 w0 S0 U0 B0) ⟨[slV tb nb kU8 b, slV tx nx kU8 x], []⟩ _ _
 have hcl := cnt_len ((x.length : Nat) : Int)
 refine sR [] ?_
 refine sR [hR 3 rfl rfl (rCa (wire_PutCount tb nb b ((x.length : Nat) : Int) (by omega)) Try.func85 [0] [(.tmp 5, slV tb nb kU8 b), (.tmp 7, vI ((x.length : Nat) : Int))] 0 1),
   hR 5 rfl rfl (q_appendO 0 1 5 1 kU8 kU8_ok (b ++ cntB ((x.length : Nat) : Int)) x (b ++ cntB ((x.length : Nat) : Int) ++ x) (b ++ cntB ((x.length : Nat) : Int)).length (sy := (.d (dsl tx nx kU8 x))) (rhs := []) elem_33 (by omega) (src_sl tx nx kU8 x) (by rw [List.take_length]) (by (simp [maxLen, -List.getD_eq_getElem?_getD] <;> omega)) (by (simp [maxLen, -List.getD_eq_getElem?_getD] <;> omega)) (lt_of rfl) trivial)] ?_
 refine T.ret ?_
 exact eRt 4 (.one (.own 1 kU8.sz 0 (b ++ cntB ((x.length : Nat) : Int) ++ x).length)) [1] (by have e1 : ((b ++ bytesB x).length : Nat) = (b ++ cntB ((x.length : Nat) : Int) ++ x).length := (by (simp only [bytesB, List.append_assoc])); have hE := congrArg (fun (q1 : Nat) => (ownV 1 kU8 0 q1 : AV)) e1; exact hE) ⟨⟨rfl, (by have e1 : (b ++ cntB ((x.length : Nat) : Int) ++ x : List UInt8) = b ++ bytesB x := (by (simp only [bytesB, List.append_assoc])); have hE := congrArg (fun (q1 : List UInt8) => (.live (arrK 5 kU8 q1) : HS)) e1; exact Eq.trans (by kernel_rfl) hE)⟩, trivial⟩
abbrev zd9b8_0 (n : Nat) : AV := dv (.int .u64 ((n : Nat) : Int))
abbrev zd9b8_1 (m : Nat) : AV := vI ((m : Nat) : Int)
abbrev zd9b8_2 (n : Nat) (j : Nat) : SV := .d (.val (.int .u8 (((UInt8.ofNat (n / 2 ^ (8 * (((j : Nat) : Int) - 1)).toNat)).toNat : Nat) : Int)))
theorem ref01_bits (tb : Bool) (nb : Bool) (b : List UInt8) (n : Nat) (m : Nat) (hb : b.length ≤ 140737488355000) (hn : n < 18446744073709551616) (hm : m ≤ 8) : Holds Try.prog 82 ⟨[slV tb nb kU8 b, dv (.int .u64 ((n : Nat) : Int)), vI ((m : Nat) : Int)], [], ownV 0 kU8 0 (b ++ (spellB n m)).length, [.live (arrK 5 kU8 (b ++ (spellB n m)))]⟩ := by
 refine Holds.of Try.func82 rfl (N := 27) Try.ntmps82 rfl fun w0 B0 S0 U0 => ?_
 show T _ (mkBase 27 0 w0 S0 U0 B0) ⟨[slV tb nb kU8 b, (zd9b8_0 n), (zd9b8_1 m)], []⟩ _ _
 refine sR [] ?_
 refine sR [hR 0 rfl rfl (q_buildSlice 0 5 kU8 kU8_ok ([] : List UInt8) [] (cs := []) Try.underlying33 iat_5 rfl zero_5 rfl rfl rfl (Nat.le_of_ble_eq_true rfl) part_ok (by kernel_rfl) (wk_eq (by kernel_rfl)) (lt_of rfl) trivial),
   hR 2 rfl rfl (q_appendO 0 1 5 1 kU8 kU8_ok ([] : List UInt8) b b ([] : List UInt8).length (sy := (.d (dsl tb nb kU8 b))) (rhs := []) elem_33 (by omega) (src_sl tb nb kU8 b) (by simp) (by (simp [maxLen, -List.getD_eq_getElem?_getD] <;> omega)) (by (simp [maxLen, -List.getD_eq_getElem?_getD] <;> omega)) (lt_of rfl) trivial)] ?_
 refine T.seq ?_
 refine sR [hR 1 rfl rfl (r_bin (u1 := .int .i64 ((m : Nat) : Int)) (u2 := .int .i64 1) (v := .int .i64 (((m : Nat) : Int) - 1)) (b_sub (by rw [IntKind.wrap_i64]; omega)) (lt_of rfl) ⟨rfl, trivial⟩)] ?_
 refine T.block ?_
 refine T.loop (ι := Nat × (List UInt8)) (fun (x_ : Nat × (List UInt8)) => ⟨[slV tb nb kU8 b, (zd9b8_0 n), (zd9b8_1 m), aa, aa, aa, dv (.slice none 0 0), ownV 1 kU8 0 x_.2.length, vI (((x_.1 : Nat) : Int) - 1)], [.dead, .live (arrK 5 kU8 x_.2)]⟩) (fun (x_ : Nat × (List UInt8)) => (x_.1 ≤ m) ∧ (x_.2 ++ spellB n x_.1 = b ++ spellB n m)) (fun (x_ : Nat × (List UInt8)) => x_.1) (m, b) ⟨(Nat.le_refl _), rfl⟩ (fun _ _ hG => Gs.i2 [3, 1] (bm 9 455) (t1 := [slV tb nb kU8 b, (zd9b8_0 n), (zd9b8_1 m), aa, aa, aa, dv (.slice none 0 0), ownV 1 kU8 0 b.length, vI (((m : Nat) : Int) - 1)]) (h1 := [.dead, .live (arrK 5 kU8 b)]) rfl rfl hG) ?_
 rintro ⟨j, acc⟩ ⟨hj, he⟩
 show T _ _ ⟨[slV tb nb kU8 b, (zd9b8_0 n), (zd9b8_1 m), aa, aa, aa, dv (.slice none 0 0), ownV 1 kU8 0 acc.length, vI (((j : Nat) : Int) - 1)], [.dead, .live (arrK 5 kU8 acc)]⟩ _ _
 replace hj : j ≤ m := hj
 replace he : acc ++ spellB n j = b ++ spellB n m := he
 have hacc := spell_lenE he
 refine T.seq ?_
 refine sR [] ?_
 by_cases hq1 : (((j : Nat) : Int) - 1) ≥ 0
 ·refine cT (decide_eq_true hq1) ?_
  refine T.skip (nT (T.seq ?_))
  refine T.block ?_
  refine xR [hR 3 rfl rfl (r_bin (u1 := .int .i64 8) (u2 := .int .i64 (((j : Nat) : Int) - 1)) (v := .int .i64 (8 * (((j : Nat) : Int) - 1))) (b_mul (by rw [IntKind.wrap_i64]; omega)) (lt_of rfl) ⟨rfl, trivial⟩),
    hR 4 rfl rfl (r_bin (u1 := .int .u64 ((n : Nat) : Int)) (u2 := .int .i64 (8 * (((j : Nat) : Int) - 1))) (v := .int .u64 ((n / 2 ^ (8 * (((j : Nat) : Int) - 1)).toNat : Nat) : Int)) (b_shrN (n := (8 * (((j : Nat) : Int) - 1)).toNat) (by omega) (Nat.le_trans (by omega) (by decide : 64 ≤ _))) (lt_of rfl) trivial),
    hR 5 rfl rfl (r_conv (u := .int .u64 ((n / 2 ^ (8 * (((j : Nat) : Int) - 1)).toNat : Nat) : Int)) (v := .int .u8 (((UInt8.ofNat (n / 2 ^ (8 * (((j : Nat) : Int) - 1)).toNat)).toNat : Nat) : Int)) (c_byte Try.underlying137 Try.underlying5) (lt_of rfl) trivial),
    hR 6 rfl rfl (q_buildSlice 2 5 kU8 kU8_ok [(UInt8.ofNat (n / 2 ^ (8 * (((j : Nat) : Int) - 1)).toNat))] [⟨0, .tmp 23, .one ((zd9b8_2 n j)), 0⟩] (cs := [(zd9b8_2 n j)]) Try.underlying33 iat_5 rfl zero_5 rfl rfl rfl (Nat.le_of_ble_eq_true rfl) (part_cons rfl rfl (Nat.le_of_ble_eq_true rfl) part_ok) (by kernel_rfl) (wk_eq (by kernel_rfl)) (lt_of rfl) trivial),
    hR 7 rfl rfl (q_appendO 1 3 5 1 kU8 kU8_ok acc [(UInt8.ofNat (n / 2 ^ (8 * (((j : Nat) : Int) - 1)).toNat))] (acc ++ [(UInt8.ofNat (n / 2 ^ (8 * (((j : Nat) : Int) - 1)).toNat))]) acc.length (sy := (.own 2 kU8.sz 0 [(UInt8.ofNat (n / 2 ^ (8 * (((j : Nat) : Int) - 1)).toNat))].length)) (rhs := [(2, .live (arrK 5 kU8 [(UInt8.ofNat (n / 2 ^ (8 * (((j : Nat) : Int) - 1)).toNat))]))]) elem_33 (by omega) (src_own 2 5 kU8 [(UInt8.ofNat (n / 2 ^ (8 * (((j : Nat) : Int) - 1)).toNat))]) (by rw [List.take_length]) (by (simp [maxLen, -List.getD_eq_getElem?_getD] <;> omega)) (by (simp [maxLen, -List.getD_eq_getElem?_getD] <;> omega)) (lt_of rfl) trivial)] (by kernel_rfl) (by kernel_rfl) ?_
  refine nB ?_
  refine nT ?_
  refine xR [hR 1 rfl rfl (r_bin (u1 := .int .i64 (((j : Nat) : Int) - 1)) (u2 := .int .i64 1) (v := .int .i64 ((((j : Nat) : Int) - 1) - 1)) (b_sub (by rw [IntKind.wrap_i64]; omega)) (lt_of rfl) ⟨rfl, trivial⟩)] (by kernel_rfl) (by kernel_rfl) ?_
  refine nL (j - 1, acc ++ [UInt8.ofNat (n / 2 ^ (8 * (((j : Nat) : Int) - 1)).toNat)]) ⟨(show (j - 1) ≤ m from (by omega)), (show (acc ++ [UInt8.ofNat (n / 2 ^ (8 * (((j : Nat) : Int) - 1)).toNat)]) ++ spellB n (j - 1) = b ++ spellB n m from (spell_stepI he (by omega)))⟩ (show ((j - 1) : Nat) < j from (by omega)) (fun _ _ hG => Gs.i2 [5, 3] (bm 9 455) (t1 := [slV tb nb kU8 b, (zd9b8_0 n), (zd9b8_1 m), aa, aa, aa, dv (.slice none 0 0), ownV 3 kU8 0 (acc ++ [UInt8.ofNat (n / 2 ^ (8 * (((j : Nat) : Int) - 1)).toNat)]).length, vI (((j - 1 : Nat) : Int) - 1)]) (t2 := [slV tb nb kU8 b, (zd9b8_0 n), (zd9b8_1 m), aa, aa, aa, dv (.slice none 0 0), ownV 3 kU8 0 (acc ++ [(UInt8.ofNat (n / 2 ^ (8 * (((j : Nat) : Int) - 1)).toNat))]).length, vI ((((j : Nat) : Int) - 1) - 1)]) (h1 := [.dead, .live (arrK 5 kU8 (acc ++ [UInt8.ofNat (n / 2 ^ (8 * (((j : Nat) : Int) - 1)).toNat)]))]) (h2 := [.dead, .live (arrK 5 kU8 (acc ++ [(UInt8.ofNat (n / 2 ^ (8 * (((j : Nat) : Int) - 1)).toNat))]))]) (cg2 (fun (q1 : Nat) (q2 : Int) => ([slV tb nb kU8 b, (zd9b8_0 n), (zd9b8_1 m), aa, aa, aa, dv (.slice none 0 0), ownV 3 kU8 0 q1, vI q2] : List AV)) (by rfl) (by omega)) (congrArg (fun (q1 : List UInt8) => ([.dead, .live (arrK 5 kU8 q1)] : List HS)) (by rfl)) hG)
 refine cF (decide_eq_false hq1) ?_
 refine T.exit ?_
 refine xT ?_
 refine xT ?_
 refine xH ?_
 refine nT ?_
 refine sR [] ?_
 refine T.ret ?_
 exact eRt 6 (.one (.own 1 kU8.sz 0 acc.length)) [1] (by have e1 : ((b ++ (spellB n m)).length : Nat) = acc.length := (by (rw [spell_end he (by omega)])); have hE := congrArg (fun (q1 : Nat) => (ownV 1 kU8 0 q1 : AV)) e1; exact hE) ⟨⟨rfl, (by have e1 : (acc : List UInt8) = b ++ (spellB n m) := (by (rw [spell_end he (by omega)])); have hE := congrArg (fun (q1 : List UInt8) => (.live (arrK 5 kU8 q1) : HS)) e1; exact Eq.trans (by kernel_rfl) hE)⟩, trivial⟩
theorem ref01_Int (tb : Bool) (nb : Bool) (b : List UInt8) (n : Int) (hb : b.length ≤ 140737488355000) : Holds Try.prog 56 ⟨[slV tb nb kU8 b, vI n], [], ownV 0 kU8 0 (b ++ intB n).length, [.live (arrK 5 kU8 (b ++ intB n))]⟩ := by
 refine Holds.of Try.func56 rfl (N := 9) Try.ntmps56 rfl fun w0 B0 S0 U0 => ?_
 show T _ (mkBase 9 0 w0 S0 U0 B0) ⟨[slV tb nb kU8 b, vI n], []⟩ _ _
 have hn := u64_lt n
 refine sR [] ?_
 refine sR [hR 2 rfl rfl (r_conv (u := .int .i64 n) (v := .int .u64 ((u64 n : Nat) : Int)) (c_u64 Try.underlying2 Try.underlying137) (lt_of rfl) trivial),
   hR 3 rfl rfl (rCa (ref01_bits tb nb b (u64 n) 8 (by assumption) (by assumption) (by omega)) Try.func82 [0] [(.tmp 5, slV tb nb kU8 b), (.tmp 7, dv (.int .u64 ((u64 n : Nat) : Int))), (.const (.int .i64 8), vI 8)] 0 1)] ?_
 refine T.ret ?_
 exact eRt 4 (.one (.own 0 kU8.sz 0 (b ++ (spellB (u64 n) 8)).length)) [0] (congrArg (fun (q1 : Nat) => (ownV 0 kU8 0 q1 : AV)) (by rfl)) ⟨⟨rfl, (by have e1 : (b ++ (spellB (u64 n) 8) : List UInt8) = b ++ intB n := (by rfl); have hE := congrArg (fun (q1 : List UInt8) => (.live (arrK 5 kU8 q1) : HS)) e1; exact Eq.trans (by kernel_rfl) hE)⟩, trivial⟩
theorem ref01_Count (tb : Bool) (nb : Bool) (b : List UInt8) (n : Int) (hb : b.length ≤ 140737488355000) : Holds Try.prog 57 ⟨[slV tb nb kU8 b, vI n], [], ownV 0 kU8 0 (b ++ cntB n).length, [.live (arrK 5 kU8 (b ++ cntB n))]⟩ := by
 refine Holds.of Try.func57 rfl (N := 11) Try.ntmps57 rfl fun w0 B0 S0 U0 => ?_
 show T _ (mkBase 11 0 w0 S0 U0 B0) ⟨[slV tb nb kU8 b, vI n], []⟩ _ _
 have hn := cntN_lt n
 refine sR [] ?_
 refine sR [hR 2 rfl rfl (r_min (k := .i64) (a := n) (b := 4294967295) (lt_of rfl) ⟨rfl, trivial⟩),
   hR 3 rfl rfl (r_max (k := .i64) (a := 0) (b := min n 4294967295) (lt_of rfl) ⟨rfl, trivial⟩),
   hR 4 rfl rfl (r_conv (u := .int .i64 (max 0 (min n 4294967295))) (v := .int .u64 ((cntN n : Nat) : Int)) (c_int Try.underlying3 Try.underlying137 (by rw [IntKind.wrap_u64]; unfold cntN; omega)) (lt_of rfl) trivial),
   hR 5 rfl rfl (rCa (ref01_bits tb nb b (cntN n) 4 (by assumption) (by omega) (by omega)) Try.func82 [0] [(.tmp 5, slV tb nb kU8 b), (.tmp 9, dv (.int .u64 ((cntN n : Nat) : Int))), (.const (.int .i64 4), vI 4)] 0 1)] ?_
 refine T.ret ?_
 exact eRt 4 (.one (.own 0 kU8.sz 0 (b ++ (spellB (cntN n) 4)).length)) [0] (congrArg (fun (q1 : Nat) => (ownV 0 kU8 0 q1 : AV)) (by rfl)) ⟨⟨rfl, (by have e1 : (b ++ (spellB (cntN n) 4) : List UInt8) = b ++ cntB n := (by rfl); have hE := congrArg (fun (q1 : List UInt8) => (.live (arrK 5 kU8 q1) : HS)) e1; exact Eq.trans (by kernel_rfl) hE)⟩, trivial⟩
theorem ref01_Bytes (tb : Bool) (nb : Bool) (b : List UInt8) (tx : Bool) (nx : Bool) (x : List UInt8) (hb : b.length + x.length ≤ 140737488355000) : Holds Try.prog 55 ⟨[slV tb nb kU8 b, slV tx nx kU8 x], [], ownV 0 kU8 0 (b ++ bytesB x).length, [.live (arrK 5 kU8 (b ++ bytesB x))]⟩ := by
 refine Holds.of Try.func55 rfl (N := 13) Try.ntmps55 rfl fun w0 B0 S0 U0 => ?_
 show T _ (mkBase 13 0 w0 S0 U0 B0) ⟨[slV tb nb kU8 b, slV tx nx kU8 x], []⟩ _ _
 have hcl := cnt_len ((x.length : Nat) : Int)
 refine sR [] ?_
 refine sR [hR 3 rfl rfl (rCa (ref01_Count tb nb b ((x.length : Nat) : Int) (by omega)) Try.func57 [0] [(.tmp 6, slV tb nb kU8 b), (.tmp 8, vI ((x.length : Nat) : Int))] 0 1)] ?_
 refine sR [hR 2 rfl rfl (q_appendO 0 1 5 1 kU8 kU8_ok (b ++ cntB ((x.length : Nat) : Int)) x (b ++ cntB ((x.length : Nat) : Int) ++ x) (b ++ cntB ((x.length : Nat) : Int)).length (sy := (.d (dsl tx nx kU8 x))) (rhs := []) elem_33 (by omega) (src_sl tx nx kU8 x) (by rw [List.take_length]) (by (simp [maxLen, -List.getD_eq_getElem?_getD] <;> omega)) (by (simp [maxLen, -List.getD_eq_getElem?_getD] <;> omega)) (lt_of rfl) trivial)] ?_
 refine T.ret ?_
 exact eRt 4 (.one (.own 1 kU8.sz 0 (b ++ cntB ((x.length : Nat) : Int) ++ x).length)) [1] (by have e1 : ((b ++ bytesB x).length : Nat) = (b ++ cntB ((x.length : Nat) : Int) ++ x).length := (by (simp only [bytesB, List.append_assoc])); have hE := congrArg (fun (q1 : Nat) => (ownV 1 kU8 0 q1 : AV)) e1; exact hE) ⟨⟨rfl, (by have e1 : (b ++ cntB ((x.length : Nat) : Int) ++ x : List UInt8) = b ++ bytesB x := (by (simp only [bytesB, List.append_assoc])); have hE := congrArg (fun (q1 : List UInt8) => (.live (arrK 5 kU8 q1) : HS)) e1; exact Eq.trans (by kernel_rfl) hE)⟩, trivial⟩
section
variable (tb : Bool) (nb : Bool) (b : List UInt8) (k : Nat)
abbrev z1283_0 : AV := vI ((b.length : Nat) : Int)
abbrev z1283_1 : St := ⟨[slV tb nb kU8 b, aa, dv (.int .u64 ((numL (b.take k) : Nat) : Int)), aa, aa, slV tb nb kU8 b, (z1283_0 b), vI ((k : Nat) : Int)], []⟩
abbrev z1283_3 : AV := vI ((k + 1 : Nat) : Int)
end
theorem wire_number (tb : Bool) (nb : Bool) (b : List UInt8) (hb : b.length ≤ 8) : Holds Try.prog 106 ⟨[slV tb nb kU8 b], [], dv (.int .u64 ((numL b : Nat) : Int)), []⟩ := by
 refine Holds.of Try.func106 rfl (N := 18) Try.ntmps106 rfl fun w0 B0 S0 U0 => ?_
 show T _ (mkBase 18 0 w0 S0 U0 B0) ⟨[slV tb nb kU8 b], []⟩ _ _
 refine sR [] ?_
 refine T.seq ?_
 refine sR [] ?_
 refine T.block ?_
 refine T.loop (ι := Nat) (fun (k : Nat) => (z1283_1 tb nb b k)) (fun (k : Nat) => (k ≤ b.length)) (fun (k : Nat) => b.length - k) (0) (Nat.zero_le _) (fun _ _ hG => Gs.iI [] (bm 8 229) (t2 := [slV tb nb kU8 b, aa, dv (.int .u64 0), aa, aa, slV tb nb kU8 b, (z1283_0 b), vI 0]) (congrArg (fun (q1 : Int) => ([slV tb nb kU8 b, aa, dv (.int .u64 q1), aa, aa, slV tb nb kU8 b, (z1283_0 b), vI 0] : List AV)) (by rfl)) rfl hG) ?_
 rintro k hk
 show T _ _ (z1283_1 tb nb b k) _ _
 replace hk : k ≤ b.length := hk
 have hk8 : numL (b.take k) < 18446744073709551616 := numL_lt8 (by simp only [List.length_take]; omega)
 refine sR [] ?_
 refine T.seq ?_
 by_cases hq1 : ((k : Nat) : Int) < ((b.length : Nat) : Int)
 ·have hk7 : numL (b.take k) < 72057594037927936 := numL_lt7 (by simp only [List.length_take]; omega); have hbt := UInt8.toNat_lt (b.getD k 0)
  refine cT (decide_eq_true hq1) ?_
  refine T.skip (nT (T.seq ?_))
  refine T.block ?_
  refine sR [hR 0 rfl rfl (q_index tb nb kU8 b k (k := .i64) (i := ((k : Nat) : Int)) Try.underlying33 iat_5 rfl rfl (by omega) (lt_of rfl) trivial)] ?_
  refine xR [hR 1 rfl rfl (r_bin (u1 := .int .u64 ((numL (b.take k) : Nat) : Int)) (u2 := .int .u64 8) (v := .int .u64 (((numL (b.take k)) * 2 ^ 8 : Nat) : Int)) (b_shlN (n := 8) rfl (Nat.le_trans (by omega) (by decide : 64 ≤ _)) (by (rw [IntKind.wrap_u64]; omega))) (lt_of rfl) ⟨rfl, trivial⟩),
    hR 3 rfl rfl (r_conv (u := .int .u8 (((b.getD k 0).toNat : Nat) : Int)) (v := .int .u64 (((b.getD k 0).toNat : Nat) : Int)) (c_int Try.underlying5 Try.underlying137 (by (rw [IntKind.wrap_u64]; omega))) (lt_of rfl) trivial),
    hR 4 rfl rfl (r_bin (u1 := .int .u64 (((numL (b.take k)) * 2 ^ 8 : Nat) : Int)) (u2 := .int .u64 (((b.getD k 0).toNat : Nat) : Int)) (v := .int .u64 ((((numL (b.take k)) * 2 ^ 8) ||| (b.getD k 0).toNat : Nat) : Int)) (b_orU (by omega) (by omega)) (lt_of rfl) trivial)] (by kernel_rfl) (by kernel_rfl) ?_
  refine nB ?_
  refine nT ?_
  refine xR [hR 0 rfl rfl (r_bin (u1 := .int .i64 ((k : Nat) : Int)) (u2 := .int .i64 1) (v := .int .i64 ((k + 1 : Nat) : Int)) (b_add (by rw [IntKind.wrap_i64]; omega)) (lt_of rfl) ⟨rfl, trivial⟩)] (by kernel_rfl) (by kernel_rfl) ?_
  refine nL (k + 1) (show (k + 1) ≤ b.length from (by omega)) (show (b.length - (k + 1) : Nat) < b.length - k from (by omega)) (fun _ _ hG => Gs.iI [] (bm 8 229) (t2 := [slV tb nb kU8 b, aa, dv (.int .u64 ((((numL (b.take k)) * 2 ^ 8) ||| (b.getD k 0).toNat : Nat) : Int)), aa, aa, slV tb nb kU8 b, (z1283_0 b), (z1283_3 k)]) (by have e1 : (((numL (b.take (k + 1)) : Nat) : Int) : Int) = ((((numL (b.take k)) * 2 ^ 8) ||| (b.getD k 0).toNat : Nat) : Int) := (by (rw [numL_take (by omega)])); have hE := congrArg (fun (q1 : Int) => ([slV tb nb kU8 b, aa, dv (.int .u64 q1), aa, aa, slV tb nb kU8 b, (z1283_0 b), (z1283_3 k)] : List AV)) e1; exact hE) rfl hG)
 refine cF (decide_eq_false hq1) ?_
 refine T.exit ?_
 refine xT ?_
 refine xT ?_
 refine xH ?_
 refine nT ?_
 refine sR [] ?_
 refine T.ret ?_
 exact eRt 2 (.one (.d (.val (.int .u64 ((numL (b.take k) : Nat) : Int))))) [] (by have e1 : (((numL b : Nat) : Int) : Int) = ((numL (b.take k) : Nat) : Int) := (by (rw [List.take_of_length_le (by omega)])); have hE := congrArg (fun (q1 : Int) => (dv (.int .u64 q1) : AV)) e1; exact hE) trivial
theorem wire_any (tb : Bool) (nb : Bool) (b : List UInt8) : Holds Try.prog 94 ⟨[slV tb nb kU8 b], [], vI 0, []⟩ := by
 refine Holds.of Try.func94 rfl (N := 3) Try.ntmps94 rfl fun w0 B0 S0 U0 => ?_
 show T _ (mkBase 3 0 w0 S0 U0 B0) ⟨[slV tb nb kU8 b], []⟩ _ _
 refine sR [] ?_
 refine sR [] ?_
 refine T.ret ?_
 exact eRt 2 (.one (dI 0)) [] rfl trivial
end Go.Proofs.Ytalapplihdmenaa.Q
