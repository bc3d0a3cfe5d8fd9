import Derived.Test.YtalapplihdmenaaGreatC13n32
namespace Go.Proofs.YtalapplihdmenaaGreat.Q
open Go Go.RowKit
set_option linter.unusedVariables false
set_option linter.unusedSimpArgs false
set_option maxRecDepth 100000
set_option maxHeartbeats 4000000
abbrev Zks : AV := .tv (.agg [.ptr 0 0, .ptr 2 0])
abbrev Zkt : SV := .d (.val (.slice none 0 0))
abbrev Zku : List AV := [vB false, pv 4 0, pv 7 0]
abbrev Zkv : SV := dI (cOf 1)
abbrev Zkw : HS := .live (.box 98 [dI (3 * (fOf 1) + 1), Zkv, .mref 1])
abbrev Zkx := (aW.mk 1000 true (aM.mk 1 0 0 1000 1 [] [(111 : UInt8), (112 : UInt8)] (api_Result.mk 0 0) ([] : List aE) ([] : List aE) ([] : List aC)))
abbrev Zky := (saidL (fOf 1) (cOf 1) ([] : List aE) Zkx)
abbrev Zkz : SV := dI (fOf 1)
abbrev Zl0 : HS := .live (.box 31 [.ptr 0 0, .ptr 2 0])
abbrev Zl1 : List HS := [Zkw, .live (mpK f_authn_pair kBool (tabM Zky)), .live (.box 75 [dB true, Zkz, Zkv, .own 6 (kE false).sz 0 Zky.length]), .dead, Zl0, .dead, .live (arrK 35 (kE false) Zky), .live (.box 35 [dI (saidE Zkx).f_Signer, dU (saidE Zkx).f_Body])]
abbrev Zl2 : HS := .live (mpK f_authn_pair kBool (tabM (awL 1)))
abbrev Zl3 : HS := .live (.box 75 [dB true, Zkz, Zkv, .own 6 (kE false).sz 0 (awL 1).length])
abbrev Zl4 : HS := .live (arrK 35 (kE false) (awL 1))
abbrev Zl5 : List SV := [dI (saidE awReq).f_Signer, dU (saidE awReq).f_Body]
abbrev Zl6 : HS := .live (.box 35 Zl5)
abbrev Zl7 : List HS := [Zkw, Zl2, Zl3, .dead, Zl0, .dead, Zl4, Zl6]
abbrev Zl8 : St := ⟨[vB false, pv 4 0, pv 7 0, pv 9 0], [Zkw, Zl2, Zl3, .dead, Zl0, .dead, Zl4, Zl6, .live (arrK 35 (kE false) [(saidE awReq)]), .live (.box 46 [dI 2, dI 0, dI 1, dI 0, dI 0, dS [], Zkt, dI 0, dI 0, .own 8 (kE false).sz 0 [(saidE awReq)].length, Zkt, Zkt])]⟩
abbrev Zl9 : List SV := [dI 2, dI 0, dI 1, dI 0, dI 0, dS (bchB [(saidE awReq)]), Zkt, dI 0, dI 0, .d (dsl false false (kE false) [(saidE awReq)]), Zkt, Zkt]
abbrev Zla : List AV := [vB false, pv 4 0, pv 7 0, pv 9 0, pv 11 0]
abbrev Zlb := (aW.mk 0 true (aM.mk 2 0 1 0 0 (bchB [(saidE awReq)]) ([] : List UInt8) (api_Result.mk 0 0) [(saidE awReq)] ([] : List aE) ([] : List aC)))
abbrev Zlc := (saidL (fOf 1) (cOf 1) (awL 1) Zlb)
abbrev Zld : HS := .live (.box 46 Zl9)
abbrev Zle : List HS := [Zkw, .live (mpK f_authn_pair kBool (tabM Zlc)), .live (.box 75 [dB true, Zkz, Zkv, .own 10 (kE false).sz 0 Zlc.length]), .dead, Zl0, .dead, .dead, Zl6, .dead, Zld, .live (arrK 35 (kE false) Zlc), .live (.box 35 [dI (saidE Zlb).f_Signer, dU (saidE Zlb).f_Body])]
abbrev Zlf : SV := dI (saidE awPre).f_Signer
abbrev Zlg : SV := dU (saidE awPre).f_Body
abbrev Zlh : HS := .live (.box 35 [Zlf, Zlg])
abbrev Zli : List HS := [Zkw, .live (mpK f_authn_pair kBool (tabM (awL 2))), .live (.box 75 [dB true, Zkz, Zkv, .own 10 (kE false).sz 0 (awL 2).length]), .dead, Zl0, .dead, .dead, Zl6, .dead, Zld, .live (arrK 35 (kE false) (awL 2)), Zlh]
abbrev Zlj : List SV := [dI 3, dI 0, dI 1, dI 0, dI 0, dS (bchB [(saidE awReq)]), Zkt, dI 0, dI 0, Zkt, Zkt, Zkt]
abbrev Zlk := (aM.mk 3 0 1 0 0 (bchB [(saidE awReq)]) ([] : List UInt8) (api_Result.mk 0 0) ([] : List aE) ([] : List aE) ([] : List aC))
abbrev Zll := (saidE (aW.mk 0 true Zlk))
abbrev Zlm := (saidE (aW.mk 1 true Zlk))
abbrev Zln := (saidE (aW.mk 2 true Zlk))
abbrev Zlo := (saidL (fOf 1) (cOf 1) (saidL (fOf 1) (cOf 1) (saidL (fOf 1) (cOf 1) (awL 2) (aW.mk 0 true Zlk)) (aW.mk 1 true Zlk)) (aW.mk 2 true Zlk))
abbrev Zlp : HS := .live (.box 75 [dB true, Zkz, Zkv, .own 15 (kE false).sz 0 Zlo.length])
abbrev Zlq : St := ⟨[vB false, pv 4 0, pv 7 0, pv 9 0, pv 11 0, pv 12 0, ownV 16 (kE false) 0 [Zll, Zlm, Zln].length], [Zkw, .live (mpK f_authn_pair kBool (tabM Zlo)), Zlp, .dead, Zl0, .dead, .dead, Zl6, .dead, Zld, .dead, Zlh, .live (.box 46 Zlj), .dead, .dead, .live (arrK 35 (kE false) Zlo), .live (arrK 35 (kE false) [Zll, Zlm, Zln])]⟩
abbrev Zlr : List AV := [vB false, pv 4 0, pv 7 0, pv 9 0, pv 11 0, pv 12 0, slV false false (kE false) [Zll, Zlm, Zln]]
abbrev Zls : List HS := [Zkw, .live (mpK f_authn_pair kBool (tabM Zlo)), Zlp, .dead, Zl0, .dead, .dead, Zl6, .dead, Zld, .dead, Zlh, .live (.box 46 Zlj), .dead, .dead, .live (arrK 35 (kE false) Zlo), .dead]
abbrev Zlt : List AV := [vB false, pv 4 0, pv 7 0, pv 9 0, pv 11 0, pv 12 0, slV false false (kE false) awV]
abbrev Zlu : List HS := [Zkw, .live (mpK f_authn_pair kBool (tabM (awL 5))), .live (.box 75 [dB true, Zkz, Zkv, .own 15 (kE false).sz 0 (awL 5).length]), .dead, Zl0, .dead, .dead, Zl6, .dead, Zld, .dead, Zlh, .live (.box 46 Zlj), .dead, .dead, .live (arrK 35 (kE false) (awL 5)), .dead]
abbrev Zlv : SV := dI (awV.getD 1 zE).f_Signer
abbrev Zlw : SV := dU (awV.getD 1 zE).f_Body
theorem law_awake : Holds Tryz.prog 7 ⟨[], [], vB true, []⟩ := by
 refine Holds.of Tryz.func7 rfl (N := 132) Tryz.ntmps7 rfl fun w0 B0 S0 U0 => ?_
 show T _ (mkBase 132 0 w0 S0 U0 B0) ⟨[], []⟩ _ _
 have hf1 := fOf_ok 1
 have hu1 := cOf_ok 1
 obtain ⟨ok1, ok2, ok3, ok4, ok5, ok6, ok7⟩ := aw_ok
 refine sR [] ?_
 refine sR [hR 1 rfl rfl (rCa (law_begun (quaestorlaw03_Size.mk 1 1) ) Tryz.func8 [0, 1, 2, 3] [(.tmp 17, .tv (.agg [dI 1, dI 1]))] 0 4)] ?_
 refine sR [hR 1 rfl rfl (q_buildSlice 5 5 kU8 kU8_ok [(111 : UInt8), (112 : UInt8)] [⟨0, .const (.int .u8 111), .one (.d (.val (.int .u8 111))), 0⟩, ⟨1, .const (.int .u8 112), .one (.d (.val (.int .u8 112))), 1⟩] (cs := [.d (.val (.int .u8 111)), .d (.val (.int .u8 112))]) Tryz.underlying33 iat_5 rfl zero_5 rfl rfl rfl (Nat.le_of_ble_eq_true rfl) (part_cons rfl rfl (Nat.le_of_ble_eq_true rfl) (part_cons rfl rfl (Nat.le_of_ble_eq_true rfl) part_ok)) (by kernel_rfl) (wk_eq (by kernel_rfl)) (lt_of rfl) ⟨rfl, ⟨rfl, trivial⟩⟩),
   hR 2 rfl rfl (r_convLit 5 5 kU8 [(111 : UInt8), (112 : UInt8)] Tryz.underlying33 Tryz.underlying5 (by decide) (lt_of rfl) trivial),
   hR 4 rfl rfl (rCn (law_sign (fOf 1) (cOf 1) ([] : List (authn_pair × Bool)) ([] : List aE) 1000 false (aM.mk 1 0 0 1000 1 [] [(111 : UInt8), (112 : UInt8)] (api_Result.mk 0 0) ([] : List aE) ([] : List aE) ([] : List aC)) ‹_› ‹_› (by rfl) (by (simp [maxLen, -List.getD_eq_getElem?_getD] <;> omega)) (by omega) ‹_›) Tryz.func16 [0, 1, 2, 3, 6] [(.tmp 19, Zks), (.const (.int .i64 1000), vI 1000), (.tmp 22, .tv (.agg [dI 1, dI 0, dI 0, dI 1000, dI 1, dS [], .d (dsl false true kU8 [(111 : UInt8), (112 : UInt8)]), dI 0, dI 0, Zkt, Zkt, Zkt]))] 4 5 ⟨⟨.inl ⟨rfl, rfl⟩, ⟨.inl ⟨rfl, rfl⟩, trivial⟩⟩, ⟨.inl ⟨rfl, rfl⟩, ⟨⟨.inl ⟨rfl, rfl⟩, ⟨.inl ⟨rfl, rfl⟩, ⟨.inl ⟨rfl, rfl⟩, ⟨.inl ⟨rfl, rfl⟩, ⟨.inl ⟨rfl, rfl⟩, ⟨.inl ⟨rfl, rfl⟩, ⟨.inr (.inr ⟨rfl, (fun h => by cases h), rfl, rfl, rfl⟩), ⟨.inl ⟨rfl, rfl⟩, ⟨.inl ⟨rfl, rfl⟩, ⟨.inr (.inr ⟨rfl, rfl, rfl⟩), ⟨.inr (.inr ⟨rfl, rfl, rfl⟩), ⟨.inr (.inr ⟨rfl, rfl, rfl⟩), trivial⟩⟩⟩⟩⟩⟩⟩⟩⟩⟩⟩⟩, trivial⟩⟩⟩ ⟨rfl, trivial⟩)] ?_
 refine tN ⟨Zku, Zl1⟩ ?_
 refine T.turn (s' := ⟨Zku, Zl7⟩) (fun _ _ hG => Gs.i2 [0, 1, 2, 12, 4, 18, 6, 7] [true, true, true] (h1 := Zl7) (h2 := Zl1) (t1 := Zku) rfl (cg5 (fun (q1 : List (authn_pair × Bool)) (q2 : Nat) (q3 : List aE) (q4 : Int) (q5 : List UInt8) => ([Zkw, .live (mpK f_authn_pair kBool q1), .live (.box 75 [dB true, Zkz, Zkv, .own 6 (kE false).sz 0 q2]), .dead, Zl0, .dead, .live (arrK 35 (kE false) q3), .live (.box 35 [dI q4, dU q5])] : List HS)) (by rfl) (by rfl) (by rfl) (by rfl) (by rfl)) hG) ?_
 refine sR [hR 1 rfl rfl (q_buildSlice 8 35 (kE false) (k_api_Envelope_ok false) [(saidE awReq)] [⟨0, .tmp 24, .agg Zl5, 0⟩] (cs := [dI (saidE awReq).f_Signer, dU (saidE awReq).f_Body]) Tryz.underlying36 iat_35 rfl zero_35 rfl rfl rfl (Nat.le_of_ble_eq_true rfl) (part_cons rfl rfl (Nat.le_of_ble_eq_true rfl) part_ok) (by kernel_rfl) (wk_eq (by kernel_rfl)) (lt_of rfl) trivial)] ?_
 refine tN Zl8 ?_
 refine T.turn (s' := ⟨[vB false, pv 4 0, pv 7 0, pv 9 0], [Zkw, Zl2, Zl3, .dead, Zl0, .dead, Zl4, Zl6, .dead, .live (.box 46 [dI 2, dI 0, dI 1, dI 0, dI 0, dS [], Zkt, dI 0, dI 0, .d (dsl false false (kE false) [(saidE awReq)]), Zkt, Zkt])]⟩) (fun _ _ hG => Gs.freeze (s := Zl8) 8 (el := elOf (kE false) [(saidE awReq)]) (sz := (kE false).sz) (n := [(saidE awReq)].length) rfl (kk4 trivial) ⟨(.inr ⟨by decide, .inl rfl⟩), ⟨(.inr ⟨by decide, .inl rfl⟩), ⟨(.inr ⟨by decide, .inl rfl⟩), ⟨(.inr ⟨by decide, .inl rfl⟩), ⟨(.inr ⟨by decide, .inl rfl⟩), ⟨(.inr ⟨by decide, .inl rfl⟩), ⟨(.inr ⟨by decide, .inl rfl⟩), ⟨(.inr ⟨by decide, .inl rfl⟩), ⟨(.inl ⟨rfl, rfl⟩), ⟨(.inr ⟨by decide, .inr ⟨rfl, ⟨.inl rfl, (kk8 ⟨(.inr ⟨rfl, rfl, rfl, (fun h => by cases h), rfl, rfl, Nat.le_of_eq (Nat.zero_add _), fun i j _ => by rw [Nat.zero_add]⟩), (kk2 trivial)⟩)⟩⟩⟩), trivial⟩⟩⟩⟩⟩⟩⟩⟩⟩⟩ hG) ?_
 refine sR [hR 2 rfl rfl (rCa (ref12_Batch false false false [(saidE awReq)] (by decide)) Tryz.func15 [] [(.tmp 28, slV false false (kE false) [(saidE awReq)])] 0 0)] ?_
 refine sR [hR 2 rfl rfl (rCn (law_sign (fOf 1) (cOf 1) (tabM (awL 1)) (awL 1) 0 false (aM.mk 2 0 1 0 0 (bchB [(saidE awReq)]) ([] : List UInt8) (api_Result.mk 0 0) [(saidE awReq)] ([] : List aE) ([] : List aC)) ‹_› ‹_› (by rfl) (by decide) (by omega) ‹_›) Tryz.func16 [0, 1, 2, 6, 10] [(.tmp 31, Zks), (.const (.int .i64 0), vI 0), (.tmp 32, .tv (.agg Zl9))] 4 5 ⟨⟨.inl ⟨rfl, rfl⟩, ⟨.inl ⟨rfl, rfl⟩, trivial⟩⟩, ⟨.inl ⟨rfl, rfl⟩, ⟨⟨.inl ⟨rfl, rfl⟩, ⟨.inl ⟨rfl, rfl⟩, ⟨.inl ⟨rfl, rfl⟩, ⟨.inl ⟨rfl, rfl⟩, ⟨.inl ⟨rfl, rfl⟩, ⟨.inl ⟨rfl, rfl⟩, ⟨.inr (.inr ⟨rfl, rfl, rfl⟩), ⟨.inl ⟨rfl, rfl⟩, ⟨.inl ⟨rfl, rfl⟩, ⟨.inl ⟨rfl, rfl⟩, ⟨.inr (.inr ⟨rfl, rfl, rfl⟩), ⟨.inr (.inr ⟨rfl, rfl, rfl⟩), trivial⟩⟩⟩⟩⟩⟩⟩⟩⟩⟩⟩⟩, trivial⟩⟩⟩ ⟨rfl, trivial⟩)] ?_
 refine tN ⟨Zla, Zle⟩ ?_
 refine T.turn (s' := ⟨Zla, Zli⟩) (fun _ _ hG => Gs.i2 [0, 1, 2, 16, 4, 22, 29, 7, 38, 9, 10, 11] (bm 5 31) (h1 := Zli) (h2 := Zle) (t1 := Zla) rfl (cg5 (fun (q1 : List (authn_pair × Bool)) (q2 : Nat) (q3 : List aE) (q4 : Int) (q5 : List UInt8) => ([Zkw, .live (mpK f_authn_pair kBool q1), .live (.box 75 [dB true, Zkz, Zkv, .own 10 (kE false).sz 0 q2]), .dead, Zl0, .dead, .dead, Zl6, .dead, Zld, .live (arrK 35 (kE false) q3), .live (.box 35 [dI q4, dU q5])] : List HS)) (by rfl) (by rfl) (by rfl) (by rfl) (by rfl)) hG) ?_
 refine sR [] ?_
 refine sD [[], [], [0, 1], [], [], [0, 1, 2, 3, 4], [], [], [0, 1, 2, 3, 4, 5, 6, 7], [0, 1, 2, 3, 4, 5, 6, 7, 8], [0, 1, 2, 3, 4, 5, 6, 7, 8, 9]] [hR 2 rfl rfl (rCn (law_sign (fOf 1) (cOf 1) (tabM (awL 2)) (awL 2) 0 false (aM.mk 3 0 1 0 0 (bchB [(saidE awReq)]) ([] : List UInt8) (api_Result.mk 0 0) ([] : List aE) ([] : List aE) ([] : List aC)) ‹_› ‹_› (by rfl) (by decide) (by omega) ‹_›) Tryz.func16 [0, 1, 2, 10, 13] [(.tmp 37, Zks), (.const (.int .i64 0), vI 0), (.tmp 38, .tv (.agg Zlj))] 4 5 ⟨⟨.inl ⟨rfl, rfl⟩, ⟨.inl ⟨rfl, rfl⟩, trivial⟩⟩, ⟨.inl ⟨rfl, rfl⟩, ⟨⟨.inl ⟨rfl, rfl⟩, ⟨.inl ⟨rfl, rfl⟩, ⟨.inl ⟨rfl, rfl⟩, ⟨.inl ⟨rfl, rfl⟩, ⟨.inl ⟨rfl, rfl⟩, ⟨.inl ⟨rfl, rfl⟩, ⟨.inr (.inr ⟨rfl, rfl, rfl⟩), ⟨.inl ⟨rfl, rfl⟩, ⟨.inl ⟨rfl, rfl⟩, ⟨.inr (.inr ⟨rfl, rfl, rfl⟩), ⟨.inr (.inr ⟨rfl, rfl, rfl⟩), ⟨.inr (.inr ⟨rfl, rfl, rfl⟩), trivial⟩⟩⟩⟩⟩⟩⟩⟩⟩⟩⟩⟩, trivial⟩⟩⟩ ⟨rfl, trivial⟩),
   hR 5 rfl rfl (rCn (law_sign (fOf 1) (cOf 1) (tabM (saidL (fOf 1) (cOf 1) (awL 2) (aW.mk 0 true (aM.mk 3 0 1 0 0 (bchB [(saidE awReq)]) ([] : List UInt8) (api_Result.mk 0 0) ([] : List aE) ([] : List aE) ([] : List aC))))) (saidL (fOf 1) (cOf 1) (awL 2) (aW.mk 0 true (aM.mk 3 0 1 0 0 (bchB [(saidE awReq)]) ([] : List UInt8) (api_Result.mk 0 0) ([] : List aE) ([] : List aE) ([] : List aC)))) 1 false (aM.mk 3 0 1 0 0 (bchB [(saidE awReq)]) ([] : List UInt8) (api_Result.mk 0 0) ([] : List aE) ([] : List aE) ([] : List aC)) ‹_› ‹_› (by rfl) (by decide) (by omega) ‹_›) Tryz.func16 [0, 1, 2, 13, 14] [(.tmp 40, Zks), (.const (.int .i64 1), vI 1), (.tmp 41, .tv (.agg Zlj))] 4 5 ⟨⟨.inl ⟨rfl, rfl⟩, ⟨.inl ⟨rfl, rfl⟩, trivial⟩⟩, ⟨.inl ⟨rfl, rfl⟩, ⟨⟨.inl ⟨rfl, rfl⟩, ⟨.inl ⟨rfl, rfl⟩, ⟨.inl ⟨rfl, rfl⟩, ⟨.inl ⟨rfl, rfl⟩, ⟨.inl ⟨rfl, rfl⟩, ⟨.inl ⟨rfl, rfl⟩, ⟨.inr (.inr ⟨rfl, rfl, rfl⟩), ⟨.inl ⟨rfl, rfl⟩, ⟨.inl ⟨rfl, rfl⟩, ⟨.inr (.inr ⟨rfl, rfl, rfl⟩), ⟨.inr (.inr ⟨rfl, rfl, rfl⟩), ⟨.inr (.inr ⟨rfl, rfl, rfl⟩), trivial⟩⟩⟩⟩⟩⟩⟩⟩⟩⟩⟩⟩, trivial⟩⟩⟩ ⟨rfl, trivial⟩),
   hR 8 rfl rfl (rCn (law_sign (fOf 1) (cOf 1) (tabM (saidL (fOf 1) (cOf 1) (saidL (fOf 1) (cOf 1) (awL 2) (aW.mk 0 true (aM.mk 3 0 1 0 0 (bchB [(saidE awReq)]) ([] : List UInt8) (api_Result.mk 0 0) ([] : List aE) ([] : List aE) ([] : List aC)))) (aW.mk 1 true (aM.mk 3 0 1 0 0 (bchB [(saidE awReq)]) ([] : List UInt8) (api_Result.mk 0 0) ([] : List aE) ([] : List aE) ([] : List aC))))) (saidL (fOf 1) (cOf 1) (saidL (fOf 1) (cOf 1) (awL 2) (aW.mk 0 true (aM.mk 3 0 1 0 0 (bchB [(saidE awReq)]) ([] : List UInt8) (api_Result.mk 0 0) ([] : List aE) ([] : List aE) ([] : List aC)))) (aW.mk 1 true (aM.mk 3 0 1 0 0 (bchB [(saidE awReq)]) ([] : List UInt8) (api_Result.mk 0 0) ([] : List aE) ([] : List aE) ([] : List aC)))) 2 false (aM.mk 3 0 1 0 0 (bchB [(saidE awReq)]) ([] : List UInt8) (api_Result.mk 0 0) ([] : List aE) ([] : List aE) ([] : List aC)) ‹_› ‹_› (by rfl) (by decide) (by omega) ‹_›) Tryz.func16 [0, 1, 2, 14, 15] [(.tmp 43, Zks), (.const (.int .i64 2), vI 2), (.tmp 44, .tv (.agg Zlj))] 4 5 ⟨⟨.inl ⟨rfl, rfl⟩, ⟨.inl ⟨rfl, rfl⟩, trivial⟩⟩, ⟨.inl ⟨rfl, rfl⟩, ⟨⟨.inl ⟨rfl, rfl⟩, ⟨.inl ⟨rfl, rfl⟩, ⟨.inl ⟨rfl, rfl⟩, ⟨.inl ⟨rfl, rfl⟩, ⟨.inl ⟨rfl, rfl⟩, ⟨.inl ⟨rfl, rfl⟩, ⟨.inr (.inr ⟨rfl, rfl, rfl⟩), ⟨.inl ⟨rfl, rfl⟩, ⟨.inl ⟨rfl, rfl⟩, ⟨.inr (.inr ⟨rfl, rfl, rfl⟩), ⟨.inr (.inr ⟨rfl, rfl, rfl⟩), ⟨.inr (.inr ⟨rfl, rfl, rfl⟩), trivial⟩⟩⟩⟩⟩⟩⟩⟩⟩⟩⟩⟩, trivial⟩⟩⟩ ⟨rfl, trivial⟩),
   hR 9 rfl rfl (q_buildSlice 16 35 (kE false) (k_api_Envelope_ok false) [(saidE (aW.mk 0 true (aM.mk 3 0 1 0 0 (bchB [(saidE awReq)]) ([] : List UInt8) (api_Result.mk 0 0) ([] : List aE) ([] : List aE) ([] : List aC)))), (saidE (aW.mk 1 true (aM.mk 3 0 1 0 0 (bchB [(saidE awReq)]) ([] : List UInt8) (api_Result.mk 0 0) ([] : List aE) ([] : List aE) ([] : List aC)))), (saidE (aW.mk 2 true (aM.mk 3 0 1 0 0 (bchB [(saidE awReq)]) ([] : List UInt8) (api_Result.mk 0 0) ([] : List aE) ([] : List aE) ([] : List aC))))] [⟨0, .tmp 39, .agg [dI Zll.f_Signer, dU Zll.f_Body], 0⟩, ⟨1, .tmp 42, .agg [dI Zlm.f_Signer, dU Zlm.f_Body], 2⟩, ⟨2, .tmp 45, .agg [dI Zln.f_Signer, dU Zln.f_Body], 4⟩] (cs := [dI Zll.f_Signer, dU Zll.f_Body, dI Zlm.f_Signer, dU Zlm.f_Body, dI Zln.f_Signer, dU Zln.f_Body]) Tryz.underlying36 iat_35 rfl zero_35 rfl rfl rfl (Nat.le_of_ble_eq_true rfl) (part_cons rfl rfl (Nat.le_of_ble_eq_true rfl) (part_cons rfl rfl (Nat.le_of_ble_eq_true rfl) (part_cons rfl rfl (Nat.le_of_ble_eq_true rfl) part_ok))) (by kernel_rfl) (wk_eq (by kernel_rfl)) (lt_of rfl) trivial)] ?_
 refine tN Zlq ?_
 refine T.turn (s' := ⟨Zlr, Zls⟩) (fun _ _ hG => Gs.freeze (s := Zlq) 16 (el := elOf (kE false) [(saidE (aW.mk 0 true (aM.mk 3 0 1 0 0 (bchB [(saidE awReq)]) ([] : List UInt8) (api_Result.mk 0 0) ([] : List aE) ([] : List aE) ([] : List aC)))), (saidE (aW.mk 1 true (aM.mk 3 0 1 0 0 (bchB [(saidE awReq)]) ([] : List UInt8) (api_Result.mk 0 0) ([] : List aE) ([] : List aE) ([] : List aC)))), (saidE (aW.mk 2 true (aM.mk 3 0 1 0 0 (bchB [(saidE awReq)]) ([] : List UInt8) (api_Result.mk 0 0) ([] : List aE) ([] : List aE) ([] : List aC))))]) (sz := (kE false).sz) (n := [(saidE (aW.mk 0 true (aM.mk 3 0 1 0 0 (bchB [(saidE awReq)]) ([] : List UInt8) (api_Result.mk 0 0) ([] : List aE) ([] : List aE) ([] : List aC)))), (saidE (aW.mk 1 true (aM.mk 3 0 1 0 0 (bchB [(saidE awReq)]) ([] : List UInt8) (api_Result.mk 0 0) ([] : List aE) ([] : List aE) ([] : List aC)))), (saidE (aW.mk 2 true (aM.mk 3 0 1 0 0 (bchB [(saidE awReq)]) ([] : List UInt8) (api_Result.mk 0 0) ([] : List aE) ([] : List aE) ([] : List aC))))].length) rfl (kk2 (kk4 ⟨(.inr (.inr ⟨rfl, rfl, rfl, (fun h => by cases h), rfl, rfl, Nat.le_of_eq (Nat.zero_add _), fun i j _ => by rw [Nat.zero_add]⟩)), trivial⟩)) ⟨(.inr ⟨by decide, .inl rfl⟩), ⟨(.inr ⟨by decide, .inl rfl⟩), ⟨(.inr ⟨by decide, .inl rfl⟩), ⟨(.inr ⟨by decide, .inl rfl⟩), ⟨(.inr ⟨by decide, .inl rfl⟩), ⟨(.inr ⟨by decide, .inl rfl⟩), ⟨(.inr ⟨by decide, .inl rfl⟩), ⟨(.inr ⟨by decide, .inl rfl⟩), ⟨(.inr ⟨by decide, .inl rfl⟩), ⟨(.inr ⟨by decide, .inl rfl⟩), ⟨(.inr ⟨by decide, .inl rfl⟩), ⟨(.inr ⟨by decide, .inl rfl⟩), ⟨(.inr ⟨by decide, .inl rfl⟩), ⟨(.inr ⟨by decide, .inl rfl⟩), ⟨(.inr ⟨by decide, .inl rfl⟩), ⟨(.inr ⟨by decide, .inl rfl⟩), ⟨(.inl ⟨rfl, rfl⟩), trivial⟩⟩⟩⟩⟩⟩⟩⟩⟩⟩⟩⟩⟩⟩⟩⟩⟩ hG) ?_
 refine T.turn (s' := ⟨Zlt, Zlu⟩) (fun _ _ hG => Gs.i2 [0, 1, 2, 21, 4, 27, 34, 7, 43, 9, 54, 11, 12, 68, 83, 15, 100] (bm 7 127) (t1 := Zlt) (t2 := Zlr) (h1 := Zlu) (h2 := Zls) (congrArg (fun (q1 : List aE) => ([vB false, pv 4 0, pv 7 0, pv 9 0, pv 11 0, pv 12 0, slV false false (kE false) q1] : List AV)) (by rfl)) (cg3 (fun (q1 : List (authn_pair × Bool)) (q2 : Nat) (q3 : List aE) => ([Zkw, .live (mpK f_authn_pair kBool q1), .live (.box 75 [dB true, Zkz, Zkv, .own 15 (kE false).sz 0 q2]), .dead, Zl0, .dead, .dead, Zl6, .dead, Zld, .dead, Zlh, .live (.box 46 Zlj), .dead, .dead, .live (arrK 35 (kE false) q3), .dead] : List HS)) (by rfl) (by rfl) (by rfl)) hG) ?_
 refine sD [[], [0], [], [], [3], [2, 3, 4], [0, 1, 2, 3, 4, 5], [0, 1, 2, 3, 4, 5, 6], [0, 1, 2, 3, 4, 5, 6, 7], [0, 1, 2, 3, 4, 5, 6, 7], [], [0, 1, 2, 3, 4, 5, 6, 7, 8, 10], [0, 1, 2, 3, 4, 5, 6, 7, 8, 9, 10, 11]] [hR 4 rfl rfl (q_slice false false (kE false) awV (awV.drop 1) 1 awV.length (lo := some (.const (.int .i64 1), 1)) (hi := none) Tryz.underlying36 iat_35 rfl rfl rfl rfl rfl (by decide) (by omega) (by rw [List.take_length]) (lt_of rfl) ⟨rfl, trivial⟩),
   hR 6 rfl rfl (rCa (cert_Prepared (fOf 1) (cOf 1) (tabM (awL 5)) false (aC.mk (saidE awPre) (awV.drop 1)) ‹_› ‹_› (by decide) (by decide) ‹_›) Tryz.func10 [0, 1] [(.tmp 49, pv 0 0), (.tmp 53, .tv (.agg [Zlf, Zlg, .d (dsl false false (kE false) (awV.drop 1))]))] 2 2)] ?_
 refine sD [[], [0], [], [], [3], [2, 3, 4], [0, 1, 2, 3, 4, 5], [0, 1, 2, 3, 4, 5, 6], [0, 1, 2, 3, 4, 5, 6, 7], [0, 1, 2, 3, 4, 5, 6, 7], [], [0, 1, 2, 3, 4, 5, 6, 7, 8, 10], [0, 1, 2, 3, 4, 5, 6, 7, 8, 9, 10, 11]] [hR 4 rfl rfl (q_slice false false (kE false) awV ((awV.take 2).drop 1) 1 2 (lo := some (.const (.int .i64 1), 1)) (hi := some (.const (.int .i64 2), 2)) Tryz.underlying36 iat_35 rfl rfl rfl rfl rfl (by omega) (by decide) rfl (lt_of rfl) ⟨rfl, ⟨rfl, trivial⟩⟩),
   hR 6 rfl rfl (rCa (cert_Prepared (fOf 1) (cOf 1) (tabM (awL 5)) false (aC.mk (saidE awPre) ((awV.take 2).drop 1)) ‹_› ‹_› (by decide) (by decide) ‹_›) Tryz.func10 [0, 1] [(.tmp 59, pv 0 0), (.tmp 63, .tv (.agg [Zlf, Zlg, .d (dsl false false (kE false) ((awV.take 2).drop 1))]))] 2 2)] ?_
 refine sD [[], [0], [], [], [3], [3, 4], [], [6], [6, 7], [3, 4, 5, 6, 7, 8], [2, 3, 4, 5, 6, 7, 8, 9], [0, 1, 2, 3, 4, 5, 6, 7, 8, 9, 10], [0, 1, 2, 3, 4, 5, 6, 7, 8, 9, 10, 11], [0, 1, 2, 3, 4, 5, 6, 7, 8, 9, 10, 11, 12], [0, 1, 2, 3, 4, 5, 6, 7, 8, 9, 10, 11, 12], [], [0, 1, 2, 3, 4, 5, 6, 7, 8, 9, 10, 11, 12, 13, 15], [0, 1, 2, 3, 4, 5, 6, 7, 8, 9, 10, 11, 12, 13, 14, 15, 16]] [hR 4 rfl rfl (q_index false false (kE false) awV 1 (k := .i64) (i := 1) Tryz.underlying36 iat_35 rfl rfl (by decide) (lt_of rfl) ⟨rfl, trivial⟩),
   hR 7 rfl rfl (q_index false false (kE false) awV 1 (k := .i64) (i := 1) Tryz.underlying36 iat_35 rfl rfl (by decide) (lt_of rfl) ⟨rfl, trivial⟩),
   hR 9 rfl rfl (q_buildSlice 19 35 (kE false) (k_api_Envelope_ok false) [(awV.getD 1 zE), (awV.getD 1 zE)] [⟨0, .tmp 73, .agg [Zlv, Zlw], 0⟩, ⟨1, .tmp 76, .agg [Zlv, Zlw], 2⟩] (cs := [Zlv, Zlw, Zlv, Zlw]) Tryz.underlying36 iat_35 rfl zero_35 rfl rfl rfl (Nat.le_of_ble_eq_true rfl) (part_cons rfl rfl (Nat.le_of_ble_eq_true rfl) (part_cons rfl rfl (Nat.le_of_ble_eq_true rfl) part_ok)) (by kernel_rfl) (wk_eq (by kernel_rfl)) (lt_of rfl) trivial),
   hR 11 rfl rfl (ORule.frz 1 78 19 35 (kE false) [(awV.getD 1 zE), (awV.getD 1 zE)] (av := .tv (.agg [Zlf, Zlg, .own 19 (kE false).sz 0 [(awV.getD 1 zE), (awV.getD 1 zE)].length])) (rCa (cert_Prepared (fOf 1) (cOf 1) (tabM (awL 5)) false (aC.mk (saidE awPre) [(awV.getD 1 zE), (awV.getD 1 zE)]) ‹_› ‹_› (by decide) (by decide) ‹_›) Tryz.func10 [0, 1] [(.tmp 69, pv 0 0), (.tmp 78, .tv (.agg [Zlf, Zlg, .d (dsl false false (kE false) [(awV.getD 1 zE), (awV.getD 1 zE)])]))] 2 2) rfl (.inr (kk2 ⟨(.inr ⟨rfl, rfl, rfl, (fun h => by cases h), rfl, rfl, Nat.le_of_eq (Nat.zero_add _), fun i j _ => by rw [Nat.zero_add]⟩), trivial⟩)) (by intro h; cases h) rfl rfl)] ?_
 refine sR [hR 5 rfl rfl (rCa (cert_Prepared (fOf 1) (cOf 1) (tabM (awL 5)) false (aC.mk (saidE awPre) awV) ‹_› ‹_› (by decide) (by decide) ‹_›) Tryz.func10 [0, 1] [(.tmp 84, pv 0 0), (.tmp 87, .tv (.agg [Zlf, Zlg, .d (dsl false false (kE false) awV)]))] 2 2)] ?_
 refine sR [hR 3 rfl rfl (rCa (cert_Request (fOf 1) (cOf 1) (tabM (awL 5)) false (saidE awReq) ‹_› ‹_› (by decide) (by decide)) Tryz.func23 [0, 1] [(.tmp 93, pv 0 0), (.tmp 94, .tv (.agg Zl5))] 2 2)] ?_
 by_cases hq1 : (ceE (checkE (fOf 1) (cOf 1) (tabM (awL 5))) (fOf 1) (aC.mk (saidE awPre) (awV.drop 1)) 3 (2 * (fOf 1))) = 0
 ·by_cases hq2 : (ceV (checkE (fOf 1) (cOf 1) (tabM (awL 5))) (fOf 1) (aC.mk (saidE awPre) (awV.drop 1)) 3 (2 * (fOf 1))).f_Seq = 1
  ·by_cases hq3 : (ceE (checkE (fOf 1) (cOf 1) (tabM (awL 5))) (fOf 1) (aC.mk (saidE awPre) ((awV.take 2).drop 1)) 3 (2 * (fOf 1))) = 32
   ·by_cases hq4 : (ceE (checkE (fOf 1) (cOf 1) (tabM (awL 5))) (fOf 1) (aC.mk (saidE awPre) [(awV.getD 1 zE), (awV.getD 1 zE)]) 3 (2 * (fOf 1))) = 33
    ·by_cases hq5 : (ceE (checkE (fOf 1) (cOf 1) (tabM (awL 5))) (fOf 1) (aC.mk (saidE awPre) awV) 3 (2 * (fOf 1))) = 133
     ·by_cases hq6 : (rqE (checkE (fOf 1) (cOf 1) (tabM (awL 5))) (fOf 1) (saidE awReq)) = 0
      ·by_cases hq7 : (rqV (checkE (fOf 1) (cOf 1) (tabM (awL 5))) (fOf 1) (saidE awReq)).f_Stamp = 1
       ·refine sR [hY 3 (dT hq1),
          hY 4 (dT hq1),
          hY 5 (dT hq1),
          hP 6 (dT hq1),
          hY 8 (dT hq2),
          hY 9 (dT hq2),
          hP 10 (dT hq2),
          hY 12 (dT hq3),
          hY 13 (dT hq3),
          hP 14 (dT hq3),
          hY 16 (dT hq4),
          hY 17 (dT hq4),
          hP 18 (dT hq4),
          hY 20 (dT hq5),
          hY 21 (dT hq5),
          hP 22 (dT hq5),
          hY 24 (dT hq6),
          hY 25 (dT hq6),
          hY 26 (dT hq6),
          hP 27 (dT hq6),
          hY 29 (dT hq7),
          hY 30 (dT hq7),
          hS 31 (oY rfl rfl rfl rfl (lt_of rfl) (dT hq7) (q_strOf () (rqV (checkE (fOf 1) (cOf 1) (tabM (awL 5))) (fOf 1) (saidE awReq)).f_Op (ys := (dU (rqV (checkE (fOf 1) (cOf 1) (tabM (awL 5))) (fOf 1) (saidE awReq)).f_Op)) (rhs := []) Tryz.underlying33 Tryz.underlying5 Tryz.underlying9 (src_sl false false kU8 (rqV (checkE (fOf 1) (cOf 1) (tabM (awL 5))) (fOf 1) (saidE awReq)).f_Op) (lt_of rfl) (by exact trivial))),
          hY 32 (dT hq7),
          hP 33 (dT hq7)] ?_
        refine T.ret ?_
        exact eRt 0 (.one (dB (decide ((rqV (checkE (fOf 1) (cOf 1) (tabM (awL 5))) (fOf 1) (saidE awReq)).f_Op = [111, 112])))) [] (cB (by rfl)) trivial
       exact absurd (by decide +kernel) hq7
      exact absurd (by decide +kernel) hq6
     exact absurd (by decide +kernel) hq5
    exact absurd (by decide +kernel) hq4
   exact absurd (by decide +kernel) hq3
  exact absurd (by decide +kernel) hq2
 exact absurd (by decide +kernel) hq1
end Go.Proofs.YtalapplihdmenaaGreat.Q
namespace Go.Proofs.YtalapplihdmenaaGreat.Q
set_option linter.unusedVariables false
set_option maxRecDepth 100000
theorem req_small : [reqE].length ≤ 4 ∧ ∀ e, e ∈ [reqE] → i64R e.f_Signer ∧ e.f_Body.length ≤ 30000 := ⟨by decide, fun e he => by
  rw [List.mem_singleton] at he
  subst he
  exact ⟨by unfold i64R; decide, few_encB few_req⟩⟩
end Go.Proofs.YtalapplihdmenaaGreat.Q
namespace Go.Proofs.YtalapplihdmenaaGreat.Q
set_option linter.unusedVariables false
set_option linter.unusedSimpArgs false
set_option maxRecDepth 100000
theorem first_inv {h : Nat → Int} : ∀ {n : Nat}, firstN h n = 0 → ∀ j, j < n → h j = 0
  | 0, _, j, hj => absurd hj (Nat.not_lt_zero _)
  | n + 1, q, j, hj => by
    rw [firstN] at q
    split at q
    · rename_i w; exact absurd q w
    · rename_i w
      rcases Nat.lt_or_ge j n with h1 | h1
      · exact first_inv (Classical.not_not.1 w) j h1
      · rw [show j = n by omega]; exact q
theorem tly_inv {g : aE → Int} {x : List aE} {need : Int} (h : ¬ tlyE g x need ≠ 0) : (∀ j, j < x.length → ¬ g (x.getD j zE) ≠ 0 ∧ ¬ twiceL x j) ∧ ¬ ((x.length : Nat) : Int) < need := by
  have h := Classical.not_not.1 h
  unfold tlyE at h
  split at h
  · rename_i w; exact absurd h w
  · rename_i w
    refine ⟨fun j hj => ?_, fun q => by rw [if_pos q] at h; cases h⟩
    have e := first_inv (Classical.not_not.1 w) j hj
    unfold votN at e
    split at e
    · rename_i w2; exact absurd e w2
    · rename_i w2
      refine ⟨w2, fun q => ?_⟩
      rw [if_pos q] at e; cases e
theorem vt_inv {C : aE → Int} {f k : Int} {e : aE} (h : ¬ vtE C f e k ≠ 0) : C e = 0 ∧ (decV e.f_Body).f_Kind = k ∧ isReplica f e.f_Signer ∧ ¬ opE C e k ≠ 0 := by
  have h := Classical.not_not.1 h
  unfold vtE at h
  split at h
  · rename_i w; exact absurd h w
  · rename_i w
    split at h
    · cases h
    · split at h
      · cases h
      · rename_i w3
        have w' := w
        have w := Classical.not_not.1 w
        unfold opE at w
        split at w
        · rename_i q; exact absurd w q
        · rename_i q
          split at w
          · cases w
          · split at w
            · cases w
            · rename_i q3
              exact ⟨Classical.not_not.1 q, Classical.not_not.1 q3, Classical.not_not.1 w3, w'⟩
theorem gC_inv {C : aE → Int} {f kind pre : Int} {p : aM} {e : aE} (h : ¬ gC C f p kind pre e ≠ 0) : ¬ vtE C f e kind ≠ 0 ∧ (decV e.f_Body).f_View = p.f_View ∧ (decV e.f_Body).f_Seq = p.f_Seq ∧ (decV e.f_Body).f_Digest = p.f_Digest ∧ ¬ (kind = 3 ∧ e.f_Signer = pre) := by
  have h := Classical.not_not.1 h
  unfold gC at h
  split at h
  · rename_i w; exact absurd h w
  · rename_i w
    refine ⟨w, ?_⟩
    unfold musE at h
    split at h
    · cases h
    · rename_i w1
      split at h
      · cases h
      · rename_i w2
        split at h
        · cases h
        · rename_i w3
          split at h
          · cases h
          · rename_i w4
            exact ⟨Classical.not_not.1 w1, Classical.not_not.1 w2, Classical.not_not.1 w3, w4⟩
theorem ce_inv {C : aE → Int} {f kind need : Int} {c : aC} (h : ¬ ceE C f c kind need ≠ 0) : ¬ ppE C f c.f_Pre ≠ 0 ∧ ¬ tlyE (gC C f (ppV C f c.f_Pre) kind c.f_Pre.f_Signer) c.f_Votes need ≠ 0 := by
  have hp : ¬ ppE C f c.f_Pre ≠ 0 := fun q => h (by rw [(ce_p (kind := kind) (need := need) q).2]; exact q)
  exact ⟨hp, fun q => h (by rw [ce_is hp]; exact q)⟩
theorem sgn_all (x : List aE) : sgn x x.length = x.map (·.f_Signer) := by unfold sgn; rw [List.take_length]
theorem sgn_nodup {x : List aE} (h : ∀ j, j < x.length → ¬ twiceL x j) : (sgn x x.length).Nodup := by
  rw [sgn_all, List.Nodup, List.pairwise_iff_getElem]
  intro i j hi hj hij e
  rw [List.length_map] at hi hj
  refine h j hj ⟨i, hij, ?_⟩
  rw [List.getElem_map, List.getElem_map] at e
  rw [List.getD_eq_getElem?_getD, List.getD_eq_getElem?_getD, List.getElem?_eq_getElem hi, List.getElem?_eq_getElem hj]
  exact e
theorem sgn_mem {x : List aE} {s : Int} (h : s ∈ sgn x x.length) : ∃ j, j < x.length ∧ (x.getD j zE).f_Signer = s := by
  rw [sgn_all] at h
  obtain ⟨e, he, rfl⟩ := List.mem_map.1 h
  obtain ⟨j, hj, rfl⟩ := List.getElem_of_mem he
  exact ⟨j, hj, by rw [List.getD_eq_getElem?_getD, List.getElem?_eq_getElem hj]; rfl⟩
end Go.Proofs.YtalapplihdmenaaGreat.Q
namespace Go.Proofs.YtalapplihdmenaaGreat.Q
set_option linter.unusedVariables false
set_option linter.unusedSimpArgs false
set_option maxRecDepth 100000
def oneM (c : quaestorlaw13_Case) : aM := ⟨2, c.f_View, c.f_Seq, 0, 0, bchB [], [], z_api_Result, [], [], []⟩
def oneP (c : quaestorlaw13_Case) : aM := ⟨3, c.f_View, c.f_Seq, 0, 0, bchB [], [], z_api_Result, [], [], []⟩
def oneW (c : quaestorlaw13_Case) (e : aE) : aW := ⟨e.f_Signer, true, oneP c⟩
def oneE (c : quaestorlaw13_Case) (V : List aE) (k : Nat) : List aE := (V.take k).map (fun e => saidE (oneW c e)) ++ V.drop k
def oneS (f u : Int) (l : List aE) (c : quaestorlaw13_Case) (V : List aE) (k : Nat) : List aE := sayL f u l (V.map (oneW c)) k
def oneC (f : Int) (c : quaestorlaw13_Case) (V : List aE) : aC := ⟨saidE ⟨primaryA f c.f_View, true, oneM c⟩, V.map fun e => saidE (oneW c e)⟩
theorem bch0_len : (bchB []).length ≤ 100 := by decide +kernel
theorem few_one (c : quaestorlaw13_Case) : fewM (oneM c) := small_len bch0_len rfl (.inl rfl) rfl rfl
theorem few_onep (c : quaestorlaw13_Case) : fewM (oneP c) := small_len bch0_len rfl (.inl rfl) rfl rfl
theorem oneE_len {c : quaestorlaw13_Case} {V : List aE} {k : Nat} (hk : k ≤ V.length) : (oneE c V k).length = V.length := by
  unfold oneE; rw [List.length_append, List.length_map, List.length_take, List.length_drop]; omega
theorem oneE_get {c : quaestorlaw13_Case} {V : List aE} {k : Nat} (hk : k < V.length) : (oneE c V k).getD k zE = V.getD k zE := by
  unfold oneE
  rw [List.getD_eq_getElem?_getD, List.getD_eq_getElem?_getD, List.getElem?_append_right (by rw [List.length_map, List.length_take]; omega), List.length_map, List.length_take, List.getElem?_drop]
  congr 2; omega
theorem oneE_succ {c : quaestorlaw13_Case} {V : List aE} {k : Nat} (hk : k < V.length) : (oneE c V k).set k (saidE (oneW c (V.getD k zE))) = oneE c V (k + 1) := by
  unfold oneE
  have hl : ((V.take k).map fun e => saidE (oneW c e)).length = k := by rw [List.length_map, List.length_take]; omega
  rw [List.set_append_right _ _ (by omega), hl, Nat.sub_self, List.drop_eq_getElem_cons hk, List.set_cons_zero, tk_succ (z := zE) hk, List.map_append, List.append_assoc, List.getD_eq_getElem?_getD, List.getElem?_eq_getElem hk]
  rfl
theorem oneE_end {c : quaestorlaw13_Case} {V : List aE} {k : Nat} (hk : V.length ≤ k) : oneE c V k = V.map fun e => saidE (oneW c e) := by
  unfold oneE; rw [List.take_of_length_le hk, List.drop_of_length_le hk, List.append_nil]
theorem oneS_succ {f u : Int} {l : List aE} {c : quaestorlaw13_Case} {V : List aE} {k : Nat} (hk : k < V.length) : oneS f u l c V (k + 1) = saidL f u (oneS f u l c V k) (oneW c (V.getD k zE)) := by
  unfold oneS
  rw [say_succ (by rw [List.length_map]; exact hk), List.getD_eq_getElem?_getD, List.getElem?_map, List.getD_eq_getElem?_getD, List.getElem?_eq_getElem hk]; rfl
theorem oneS_len (f u : Int) (l : List aE) (c : quaestorlaw13_Case) (V : List aE) (k : Nat) : (oneS f u l c V k).length ≤ l.length + k := say_len f u l _ k
theorem one_okE {c : quaestorlaw13_Case} {V : List aE} (h : okEs V) : okEs (V.map fun e => saidE (oneW c e)) := ⟨by rw [List.length_map]; exact h.1, fun e he => by
  obtain ⟨w, hw, rfl⟩ := List.mem_map.1 he
  exact ⟨(h.2 w hw).1, Nat.le_trans (few_encB (few_onep c)) (by decide)⟩⟩
theorem bnd_one {c d : quaestorlaw13_Case} (hc : bndC c) (hd : bndC d) : bndC ⟨c.f_View, c.f_Seq, d.f_Primary, d.f_Votes⟩ := ⟨hc.1, hc.2.1, hc.2.2.1, hc.2.2.2.1, hd.2.2.2.2⟩
theorem rng_one {c d : quaestorlaw13_Case} (hc : rngC c) (hd : rngC d) : rngC ⟨c.f_View, c.f_Seq, d.f_Primary, d.f_Votes⟩ := ⟨hc.1, hc.2.1, hd.2.2.1, hd.2.2.2⟩
def comI (K L : List aE) (i n : Nat) : List Int := ((L.take n).filter fun e => decide ((K.getD i zE).f_Signer = e.f_Signer)).map fun _ => (K.getD i zE).f_Signer
def comO (K L : List aE) : Nat → List Int
  | 0 => []
  | i + 1 => comO K L i ++ comI K L i L.length
theorem comI_0 (K L : List aE) (i : Nat) : comI K L i 0 = [] := rfl
theorem comI_yes {K L : List aE} {i n : Nat} (hn : n < L.length) (h : (K.getD i zE).f_Signer = (L.getD n zE).f_Signer) : comI K L i (n + 1) = comI K L i n ++ [(K.getD i zE).f_Signer] := by
  unfold comI
  rw [tk_succ (z := zE) hn, List.filter_append, List.map_append, List.filter_cons_of_pos (p := fun e : aE => decide ((K.getD i zE).f_Signer = e.f_Signer)) (a := L.getD n zE) (decide_eq_true h)]
  rfl
theorem comI_no {K L : List aE} {i n : Nat} (hn : n < L.length) (h : ¬ (K.getD i zE).f_Signer = (L.getD n zE).f_Signer) : comI K L i (n + 1) = comI K L i n := by
  unfold comI
  rw [tk_succ (z := zE) hn, List.filter_append, List.map_append, List.filter_cons_of_neg (p := fun e : aE => decide ((K.getD i zE).f_Signer = e.f_Signer)) (a := L.getD n zE) (by rw [decide_eq_false h]; decide), List.filter_nil, List.map_nil, List.append_nil]
theorem comI_end {K L : List aE} {i n : Nat} (hn : L.length ≤ n) : comO K L (i + 1) = comO K L i ++ comI K L i n := by
  rw [comO]; unfold comI; rw [List.take_length, List.take_of_length_le hn]
theorem comI_len (K L : List aE) (i n : Nat) : (comI K L i n).length ≤ L.length := by
  unfold comI; rw [List.length_map]; exact Nat.le_trans (List.length_filter_le _ _) (by rw [List.length_take]; omega)
theorem comO_len (K L : List aE) (hL : L.length ≤ 31) : ∀ i, (comO K L i).length ≤ 31 * i
  | 0 => Nat.le_refl _
  | i + 1 => by
    have h1 := comO_len K L hL i
    have h2 := comI_len K L i L.length
    rw [comO, List.length_append]; omega
theorem comI_mem {K L : List aE} {i : Nat} {s : Int} : s ∈ comI K L i L.length ↔ s = (K.getD i zE).f_Signer ∧ s ∈ L.map (·.f_Signer) := by
  unfold comI
  rw [List.take_length]
  simp only [List.mem_map, List.mem_filter, decide_eq_true_eq]
  constructor
  · rintro ⟨e, ⟨h1, h2⟩, rfl⟩; exact ⟨rfl, e, h1, h2.symm⟩
  · rintro ⟨rfl, e, h1, h2⟩; exact ⟨e, ⟨h1, h2.symm⟩, rfl⟩
theorem comO_mem {K L : List aE} {s : Int} : ∀ {i : Nat}, s ∈ comO K L i ↔ (∃ j, j < i ∧ s = (K.getD j zE).f_Signer) ∧ s ∈ L.map (·.f_Signer)
  | 0 => ⟨(fun h => by cases h), fun ⟨⟨j, h, _⟩, _⟩ => absurd h (Nat.not_lt_zero _)⟩
  | i + 1 => by
    rw [comO, List.mem_append, comO_mem (i := i), comI_mem]
    constructor
    · rintro (⟨⟨j, h1, h2⟩, h3⟩ | ⟨h1, h2⟩)
      · exact ⟨⟨j, by omega, h2⟩, h3⟩
      · exact ⟨⟨i, by omega, h1⟩, h2⟩
    · rintro ⟨⟨j, h1, h2⟩, h3⟩
      rcases Nat.lt_or_ge j i with h | h
      · exact .inl ⟨⟨j, h, h2⟩, h3⟩
      · exact .inr ⟨by rw [show i = j by omega]; exact h2, h3⟩
theorem cnt_ext {f : Int} {l m : List Int} (h : ∀ s, s ∈ l ↔ s ∈ m) : cntR f l = cntR f m := by
  unfold cntR
  congr 2
  funext i
  simp only [h]
theorem cnt_cons {f P : Int} (hf : 0 ≤ f ∧ f ≤ 2) {x : List aE} (hP : isReplica f P) (h1 : ∀ j, j < x.length → isReplica f (x.getD j zE).f_Signer) (h2 : ∀ j, j < x.length → ¬ twiceL x j) (h3 : ∀ j, j < x.length → ¬ (x.getD j zE).f_Signer = P) : cntR f (P :: x.map (·.f_Signer)) = x.length + 1 := by
  have e := sgn_all x
  rw [← cnt_of_mem (l := P :: x.map (·.f_Signer)) (r := P :: x.map (·.f_Signer)) hf (List.nodup_cons.2 ⟨fun h => ?_, by rw [← e]; exact sgn_nodup h2⟩) (fun s => ⟨fun h => ⟨?_, h⟩, And.right⟩), List.length_cons, List.length_map]
  · rw [← e] at h
    obtain ⟨j, hj, q⟩ := sgn_mem h
    exact h3 j hj q
  · rcases List.mem_cons.1 h with rfl | h
    · exact hP
    · rw [← e] at h
      obtain ⟨j, hj, rfl⟩ := sgn_mem h
      exact h1 j hj
theorem pri_rep {f v : Int} (hf : 0 ≤ f ∧ f ≤ 2) (hv : v ≥ 0) : isReplica f (primaryA f v) := by
  unfold primaryA isReplica
  rw [if_neg (by omega)]
  have h1 := Int.emod_nonneg v (b := 3 * f + 1) (by omega)
  have h2 := Int.emod_lt_of_pos v (b := 3 * f + 1) (by omega)
  omega
theorem prep {C : aE → Int} {f P : Int} {c : aC} (hf : 0 ≤ f ∧ f ≤ 2) (hP : isReplica f P) (hs : c.f_Pre.f_Signer = P) (h : ¬ ceE C f c 3 (2 * f) ≠ 0) : 2 * f + 1 ≤ ((cntR f (P :: c.f_Votes.map (·.f_Signer)) : Nat) : Int) := by
  obtain ⟨hp, ht⟩ := ce_inv h
  obtain ⟨hj, hn⟩ := tly_inv ht
  rw [cnt_cons hf hP (fun j q => (vt_inv (gC_inv (hj j q).1).1).2.2.1) (fun j q => (hj j q).2) (fun j q e => (gC_inv (hj j q).1).2.2.2.2 ⟨rfl, by rw [e, hs]⟩)]
  omega
theorem ce_pre {C : aE → Int} {f kind need : Int} {c : aC} {m : aM} (hm : decV c.f_Pre.f_Body = m) (h : ¬ ceE C f c kind need ≠ 0) : c.f_Pre.f_Signer = primaryA f m.f_View := by
  have hp := (ce_inv h).1
  rw [pp_prim hp, pp_val hp, hm]
theorem one_law {C : aE → Int} {f : Int} {c : quaestorlaw13_Case} {V : List aE} (hf : 0 ≤ f ∧ f ≤ 2) (hv : c.f_View ≥ 0) (h : ¬ ceE C f (madeC f c) 3 (2 * f) ≠ 0) (h' : ¬ ceE C f (oneC f c V) 3 (2 * f) ≠ 0) {k : Nat} (hk : (madeC f c).f_Votes.length ≤ k) (hk2 : k ≤ (madeC f c).f_Votes.length) :
    f + 1 ≤ ((cntR f ([primaryA f c.f_View] ++ comO (madeC f c).f_Votes (oneC f c V).f_Votes k) : Nat) : Int) := by
  have hP := pri_rep (f := f) hf hv
  have s1 : (madeC f c).f_Pre.f_Signer = primaryA f c.f_View := ce_pre (m := preM c) (by
    have hp := (ce_inv h).1
    rw [← pp_val hp]
    exact bin_pp (v := c.f_View) (n := c.f_Seq) req_small hp) h
  have a := prep hf hP s1 h
  have b := prep (c := oneC f c V) hf hP rfl h'
  have m := meetsR hf (Nat.le_refl _) (fun q => by omega) (fun q => by omega) (l := primaryA f c.f_View :: (madeC f c).f_Votes.map (·.f_Signer)) (m := primaryA f c.f_View :: (oneC f c V).f_Votes.map (·.f_Signer))
  rw [cnt_ext (m := [primaryA f c.f_View] ++ comO (madeC f c).f_Votes (oneC f c V).f_Votes k) fun s => ?_] at m
  · omega
  · unfold meetL
    rw [List.take_length]
    simp only [List.mem_filter, decide_eq_true_eq, List.mem_cons, List.mem_append, List.not_mem_nil, or_false]
    rw [comO_mem]
    have q1 : s ∈ (madeC f c).f_Votes.map (·.f_Signer) ↔ ∃ j, j < k ∧ s = ((madeC f c).f_Votes.getD j zE).f_Signer := ⟨fun h => by
      rw [← sgn_all] at h
      obtain ⟨j, hj, e⟩ := sgn_mem h
      exact ⟨j, by omega, e.symm⟩, fun ⟨j, hj, e⟩ => by rw [e]; exact List.mem_map.2 ⟨_, getD_mem (by omega), rfl⟩⟩
    rw [q1]
    constructor
    · rintro ⟨h1 | h1, h2 | h2⟩
      · exact .inl h1
      · exact .inl h1
      · exact .inl h2
      · exact .inr ⟨h1, h2⟩
    · rintro (h1 | ⟨h1, h2⟩)
      · exact ⟨.inl h1, .inl h1⟩
      · exact ⟨.inr h1, .inr h2⟩
end Go.Proofs.YtalapplihdmenaaGreat.Q
namespace Go.Proofs.YtalapplihdmenaaGreat.Q
open Go Go.RowKit
set_option linter.unusedVariables false
set_option linter.unusedSimpArgs false
set_option maxRecDepth 100000
set_option maxHeartbeats 4000000
end Go.Proofs.YtalapplihdmenaaGreat.Q
