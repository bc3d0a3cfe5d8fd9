import Derived.Test.YtalapplihdmenaaC13n29
namespace Go.Proofs.Ytalapplihdmenaa.Q
open Go Go.RowKit
set_option linter.unusedVariables false
set_option linter.unusedSimpArgs false
set_option maxRecDepth 100000
set_option maxHeartbeats 4000000
abbrev Zi0 : AV := .tv (.agg [.ptr 0 0, .ptr 2 0])
abbrev Zi1 : SV := .d (.val (.slice none 0 0))
abbrev Zi2 : List AV := [vB false, pv 4 0, pv 7 0]
abbrev Zi3 : SV := dI (cOf 1)
abbrev Zi4 : HS := .live (.box 94 [dI (3 * (fOf 1) + 1), Zi3, .mref 1])
abbrev Zi5 := (aW.mk 1000 true (aM.mk 1 0 0 1000 1 [] [(111 : UInt8), (112 : UInt8)] (api_Result.mk 0 0) ([] : List aE) ([] : List aE) ([] : List aC)))
abbrev Zi6 := (saidL (fOf 1) (cOf 1) ([] : List aE) Zi5)
abbrev Zi7 : SV := dI (fOf 1)
abbrev Zi8 : HS := .live (.box 29 [.ptr 0 0, .ptr 2 0])
abbrev Zi9 : List HS := [Zi4, .live (mpK f_authn_pair kBool (tabM Zi6)), .live (.box 83 [dB true, Zi7, Zi3, .own 6 (kE false).sz 0 Zi6.length]), .dead, Zi8, .dead, .live (arrK 40 (kE false) Zi6), .live (.box 40 [dI (saidE Zi5).f_Signer, dU (saidE Zi5).f_Body])]
abbrev Zia : HS := .live (mpK f_authn_pair kBool (tabM (awL 1)))
abbrev Zib : HS := .live (.box 83 [dB true, Zi7, Zi3, .own 6 (kE false).sz 0 (awL 1).length])
abbrev Zic : HS := .live (arrK 40 (kE false) (awL 1))
abbrev Zid : List SV := [dI (saidE awReq).f_Signer, dU (saidE awReq).f_Body]
abbrev Zie : HS := .live (.box 40 Zid)
abbrev Zif : List HS := [Zi4, Zia, Zib, .dead, Zi8, .dead, Zic, Zie]
abbrev Zig : St := ⟨[vB false, pv 4 0, pv 7 0, pv 9 0], [Zi4, Zia, Zib, .dead, Zi8, .dead, Zic, Zie, .live (arrK 40 (kE false) [(saidE awReq)]), .live (.box 51 [dI 2, dI 0, dI 1, dI 0, dI 0, dS [], Zi1, dI 0, dI 0, .own 8 (kE false).sz 0 [(saidE awReq)].length, Zi1, Zi1])]⟩
abbrev Zih : List SV := [dI 2, dI 0, dI 1, dI 0, dI 0, dS (bchB [(saidE awReq)]), Zi1, dI 0, dI 0, .d (dsl false false (kE false) [(saidE awReq)]), Zi1, Zi1]
abbrev Zii : List AV := [vB false, pv 4 0, pv 7 0, pv 9 0, pv 11 0]
abbrev Zij := (aW.mk 0 true (aM.mk 2 0 1 0 0 (bchB [(saidE awReq)]) ([] : List UInt8) (api_Result.mk 0 0) [(saidE awReq)] ([] : List aE) ([] : List aC)))
abbrev Zik := (saidL (fOf 1) (cOf 1) (awL 1) Zij)
abbrev Zil : HS := .live (.box 51 Zih)
abbrev Zim : List HS := [Zi4, .live (mpK f_authn_pair kBool (tabM Zik)), .live (.box 83 [dB true, Zi7, Zi3, .own 10 (kE false).sz 0 Zik.length]), .dead, Zi8, .dead, .dead, Zie, .dead, Zil, .live (arrK 40 (kE false) Zik), .live (.box 40 [dI (saidE Zij).f_Signer, dU (saidE Zij).f_Body])]
abbrev Zin : SV := dI (saidE awPre).f_Signer
abbrev Zio : SV := dU (saidE awPre).f_Body
abbrev Zip : HS := .live (.box 40 [Zin, Zio])
abbrev Ziq : List HS := [Zi4, .live (mpK f_authn_pair kBool (tabM (awL 2))), .live (.box 83 [dB true, Zi7, Zi3, .own 10 (kE false).sz 0 (awL 2).length]), .dead, Zi8, .dead, .dead, Zie, .dead, Zil, .live (arrK 40 (kE false) (awL 2)), Zip]
abbrev Zir : List SV := [dI 3, dI 0, dI 1, dI 0, dI 0, dS (bchB [(saidE awReq)]), Zi1, dI 0, dI 0, Zi1, Zi1, Zi1]
abbrev Zis := (aM.mk 3 0 1 0 0 (bchB [(saidE awReq)]) ([] : List UInt8) (api_Result.mk 0 0) ([] : List aE) ([] : List aE) ([] : List aC))
abbrev Zit := (saidE (aW.mk 0 true Zis))
abbrev Ziu := (saidE (aW.mk 1 true Zis))
abbrev Ziv := (saidE (aW.mk 2 true Zis))
abbrev Ziw := (saidL (fOf 1) (cOf 1) (saidL (fOf 1) (cOf 1) (saidL (fOf 1) (cOf 1) (awL 2) (aW.mk 0 true Zis)) (aW.mk 1 true Zis)) (aW.mk 2 true Zis))
abbrev Zix : HS := .live (.box 83 [dB true, Zi7, Zi3, .own 15 (kE false).sz 0 Ziw.length])
abbrev Ziy : St := ⟨[vB false, pv 4 0, pv 7 0, pv 9 0, pv 11 0, pv 12 0, ownV 16 (kE false) 0 [Zit, Ziu, Ziv].length], [Zi4, .live (mpK f_authn_pair kBool (tabM Ziw)), Zix, .dead, Zi8, .dead, .dead, Zie, .dead, Zil, .dead, Zip, .live (.box 51 Zir), .dead, .dead, .live (arrK 40 (kE false) Ziw), .live (arrK 40 (kE false) [Zit, Ziu, Ziv])]⟩
abbrev Ziz : List AV := [vB false, pv 4 0, pv 7 0, pv 9 0, pv 11 0, pv 12 0, slV false false (kE false) [Zit, Ziu, Ziv]]
abbrev Zj0 : List HS := [Zi4, .live (mpK f_authn_pair kBool (tabM Ziw)), Zix, .dead, Zi8, .dead, .dead, Zie, .dead, Zil, .dead, Zip, .live (.box 51 Zir), .dead, .dead, .live (arrK 40 (kE false) Ziw), .dead]
abbrev Zj1 : List AV := [vB false, pv 4 0, pv 7 0, pv 9 0, pv 11 0, pv 12 0, slV false false (kE false) awV]
abbrev Zj2 : List HS := [Zi4, .live (mpK f_authn_pair kBool (tabM (awL 5))), .live (.box 83 [dB true, Zi7, Zi3, .own 15 (kE false).sz 0 (awL 5).length]), .dead, Zi8, .dead, .dead, Zie, .dead, Zil, .dead, Zip, .live (.box 51 Zir), .dead, .dead, .live (arrK 40 (kE false) (awL 5)), .dead]
abbrev Zj3 : SV := dI (awV.getD 1 zE).f_Signer
abbrev Zj4 : SV := dU (awV.getD 1 zE).f_Body
theorem law_awake : Holds Try.prog 14 ⟨[], [], vB true, []⟩ := by
 refine Holds.of Try.func14 rfl (N := 132) Try.ntmps14 rfl fun w0 B0 S0 U0 => ?_
 show T _ (mkBase 132 0 w0 S0 U0 B0) ⟨[], []⟩ _ _
 have hf1 := fOf_ok 1
 have hu1 := cOf_ok 1
 obtain ⟨ok1, ok2, ok3, ok4, ok5, ok6, ok7⟩ := aw_ok
 refine sR [] ?_
 refine sR [hR 1 rfl rfl (rCa (law_begun (quaestorlaw03_Size.mk 1 1) ) Try.func8 [0, 1, 2, 3] [(.tmp 17, .tv (.agg [dI 1, dI 1]))] 0 4)] ?_
 refine sR [hR 1 rfl rfl (q_buildSlice 5 5 kU8 kU8_ok [(111 : UInt8), (112 : UInt8)] [⟨0, .const (.int .u8 111), .one (.d (.val (.int .u8 111))), 0⟩, ⟨1, .const (.int .u8 112), .one (.d (.val (.int .u8 112))), 1⟩] (cs := [.d (.val (.int .u8 111)), .d (.val (.int .u8 112))]) Try.underlying33 iat_5 rfl zero_5 rfl rfl rfl (Nat.le_of_ble_eq_true rfl) (part_cons rfl rfl (Nat.le_of_ble_eq_true rfl) (part_cons rfl rfl (Nat.le_of_ble_eq_true rfl) part_ok)) (by kernel_rfl) (wk_eq (by kernel_rfl)) (lt_of rfl) ⟨rfl, ⟨rfl, trivial⟩⟩),
   hR 2 rfl rfl (r_convLit 5 5 kU8 [(111 : UInt8), (112 : UInt8)] Try.underlying33 Try.underlying5 (by decide) (lt_of rfl) trivial),
   hR 4 rfl rfl (rCn (law_sign (fOf 1) (cOf 1) ([] : List (authn_pair × Bool)) ([] : List aE) 1000 false (aM.mk 1 0 0 1000 1 [] [(111 : UInt8), (112 : UInt8)] (api_Result.mk 0 0) ([] : List aE) ([] : List aE) ([] : List aC)) ‹_› ‹_› (by rfl) (by (simp [maxLen, -List.getD_eq_getElem?_getD] <;> omega)) (by omega) ‹_›) Try.func17 [0, 1, 2, 3, 6] [(.tmp 19, Zi0), (.const (.int .i64 1000), vI 1000), (.tmp 22, .tv (.agg [dI 1, dI 0, dI 0, dI 1000, dI 1, dS [], .d (dsl false true kU8 [(111 : UInt8), (112 : UInt8)]), dI 0, dI 0, Zi1, Zi1, Zi1]))] 4 5 ⟨⟨.inl ⟨rfl, rfl⟩, ⟨.inl ⟨rfl, rfl⟩, trivial⟩⟩, ⟨.inl ⟨rfl, rfl⟩, ⟨⟨.inl ⟨rfl, rfl⟩, ⟨.inl ⟨rfl, rfl⟩, ⟨.inl ⟨rfl, rfl⟩, ⟨.inl ⟨rfl, rfl⟩, ⟨.inl ⟨rfl, rfl⟩, ⟨.inl ⟨rfl, rfl⟩, ⟨.inr (.inr ⟨rfl, (fun h => by cases h), rfl, rfl, rfl⟩), ⟨.inl ⟨rfl, rfl⟩, ⟨.inl ⟨rfl, rfl⟩, ⟨.inr (.inr ⟨rfl, rfl, rfl⟩), ⟨.inr (.inr ⟨rfl, rfl, rfl⟩), ⟨.inr (.inr ⟨rfl, rfl, rfl⟩), trivial⟩⟩⟩⟩⟩⟩⟩⟩⟩⟩⟩⟩, trivial⟩⟩⟩ ⟨rfl, trivial⟩)] ?_
 refine tN ⟨Zi2, Zi9⟩ ?_
 refine T.turn (s' := ⟨Zi2, Zif⟩) (fun _ _ hG => Gs.i2 [0, 1, 2, 12, 4, 18, 6, 7] [true, true, true] (h1 := Zif) (h2 := Zi9) (t1 := Zi2) rfl (cg5 (fun (q1 : List (authn_pair × Bool)) (q2 : Nat) (q3 : List aE) (q4 : Int) (q5 : List UInt8) => ([Zi4, .live (mpK f_authn_pair kBool q1), .live (.box 83 [dB true, Zi7, Zi3, .own 6 (kE false).sz 0 q2]), .dead, Zi8, .dead, .live (arrK 40 (kE false) q3), .live (.box 40 [dI q4, dU q5])] : List HS)) (by rfl) (by rfl) (by rfl) (by rfl) (by rfl)) hG) ?_
 refine sR [hR 1 rfl rfl (q_buildSlice 8 40 (kE false) (k_api_Envelope_ok false) [(saidE awReq)] [⟨0, .tmp 24, .agg Zid, 0⟩] (cs := [dI (saidE awReq).f_Signer, dU (saidE awReq).f_Body]) Try.underlying31 iat_40 rfl zero_40 rfl rfl rfl (Nat.le_of_ble_eq_true rfl) (part_cons rfl rfl (Nat.le_of_ble_eq_true rfl) part_ok) (by kernel_rfl) (wk_eq (by kernel_rfl)) (lt_of rfl) trivial)] ?_
 refine tN Zig ?_
 refine T.turn (s' := ⟨[vB false, pv 4 0, pv 7 0, pv 9 0], [Zi4, Zia, Zib, .dead, Zi8, .dead, Zic, Zie, .dead, .live (.box 51 [dI 2, dI 0, dI 1, dI 0, dI 0, dS [], Zi1, dI 0, dI 0, .d (dsl false false (kE false) [(saidE awReq)]), Zi1, Zi1])]⟩) (fun _ _ hG => Gs.freeze (s := Zig) 8 (el := elOf (kE false) [(saidE awReq)]) (sz := (kE false).sz) (n := [(saidE awReq)].length) rfl (kk4 trivial) ⟨(.inr ⟨by decide, .inl rfl⟩), ⟨(.inr ⟨by decide, .inl rfl⟩), ⟨(.inr ⟨by decide, .inl rfl⟩), ⟨(.inr ⟨by decide, .inl rfl⟩), ⟨(.inr ⟨by decide, .inl rfl⟩), ⟨(.inr ⟨by decide, .inl rfl⟩), ⟨(.inr ⟨by decide, .inl rfl⟩), ⟨(.inr ⟨by decide, .inl rfl⟩), ⟨(.inl ⟨rfl, rfl⟩), ⟨(.inr ⟨by decide, .inr ⟨rfl, ⟨.inl rfl, (kk8 ⟨(.inr ⟨rfl, rfl, rfl, (fun h => by cases h), rfl, rfl, Nat.le_of_eq (Nat.zero_add _), fun i j _ => by rw [Nat.zero_add]⟩), (kk2 trivial)⟩)⟩⟩⟩), trivial⟩⟩⟩⟩⟩⟩⟩⟩⟩⟩ hG) ?_
 refine sR [hR 2 rfl rfl (rCa (ref12_Batch false false false [(saidE awReq)] (by decide)) Try.func15 [] [(.tmp 28, slV false false (kE false) [(saidE awReq)])] 0 0)] ?_
 refine sR [hR 2 rfl rfl (rCn (law_sign (fOf 1) (cOf 1) (tabM (awL 1)) (awL 1) 0 false (aM.mk 2 0 1 0 0 (bchB [(saidE awReq)]) ([] : List UInt8) (api_Result.mk 0 0) [(saidE awReq)] ([] : List aE) ([] : List aC)) ‹_› ‹_› (by rfl) (by decide) (by omega) ‹_›) Try.func17 [0, 1, 2, 6, 10] [(.tmp 31, Zi0), (.const (.int .i64 0), vI 0), (.tmp 32, .tv (.agg Zih))] 4 5 ⟨⟨.inl ⟨rfl, rfl⟩, ⟨.inl ⟨rfl, rfl⟩, trivial⟩⟩, ⟨.inl ⟨rfl, rfl⟩, ⟨⟨.inl ⟨rfl, rfl⟩, ⟨.inl ⟨rfl, rfl⟩, ⟨.inl ⟨rfl, rfl⟩, ⟨.inl ⟨rfl, rfl⟩, ⟨.inl ⟨rfl, rfl⟩, ⟨.inl ⟨rfl, rfl⟩, ⟨.inr (.inr ⟨rfl, rfl, rfl⟩), ⟨.inl ⟨rfl, rfl⟩, ⟨.inl ⟨rfl, rfl⟩, ⟨.inl ⟨rfl, rfl⟩, ⟨.inr (.inr ⟨rfl, rfl, rfl⟩), ⟨.inr (.inr ⟨rfl, rfl, rfl⟩), trivial⟩⟩⟩⟩⟩⟩⟩⟩⟩⟩⟩⟩, trivial⟩⟩⟩ ⟨rfl, trivial⟩)] ?_
 refine tN ⟨Zii, Zim⟩ ?_
 refine T.turn (s' := ⟨Zii, Ziq⟩) (fun _ _ hG => Gs.i2 [0, 1, 2, 16, 4, 22, 29, 7, 38, 9, 10, 11] (bm 5 31) (h1 := Ziq) (h2 := Zim) (t1 := Zii) rfl (cg5 (fun (q1 : List (authn_pair × Bool)) (q2 : Nat) (q3 : List aE) (q4 : Int) (q5 : List UInt8) => ([Zi4, .live (mpK f_authn_pair kBool q1), .live (.box 83 [dB true, Zi7, Zi3, .own 10 (kE false).sz 0 q2]), .dead, Zi8, .dead, .dead, Zie, .dead, Zil, .live (arrK 40 (kE false) q3), .live (.box 40 [dI q4, dU q5])] : List HS)) (by rfl) (by rfl) (by rfl) (by rfl) (by rfl)) hG) ?_
 refine sR [] ?_
 refine sD [[], [], [0, 1], [], [], [0, 1, 2, 3, 4], [], [], [0, 1, 2, 3, 4, 5, 6, 7], [0, 1, 2, 3, 4, 5, 6, 7, 8], [0, 1, 2, 3, 4, 5, 6, 7, 8, 9]] [hR 2 rfl rfl (rCn (law_sign (fOf 1) (cOf 1) (tabM (awL 2)) (awL 2) 0 false (aM.mk 3 0 1 0 0 (bchB [(saidE awReq)]) ([] : List UInt8) (api_Result.mk 0 0) ([] : List aE) ([] : List aE) ([] : List aC)) ‹_› ‹_› (by rfl) (by decide) (by omega) ‹_›) Try.func17 [0, 1, 2, 10, 13] [(.tmp 37, Zi0), (.const (.int .i64 0), vI 0), (.tmp 38, .tv (.agg Zir))] 4 5 ⟨⟨.inl ⟨rfl, rfl⟩, ⟨.inl ⟨rfl, rfl⟩, trivial⟩⟩, ⟨.inl ⟨rfl, rfl⟩, ⟨⟨.inl ⟨rfl, rfl⟩, ⟨.inl ⟨rfl, rfl⟩, ⟨.inl ⟨rfl, rfl⟩, ⟨.inl ⟨rfl, rfl⟩, ⟨.inl ⟨rfl, rfl⟩, ⟨.inl ⟨rfl, rfl⟩, ⟨.inr (.inr ⟨rfl, rfl, rfl⟩), ⟨.inl ⟨rfl, rfl⟩, ⟨.inl ⟨rfl, rfl⟩, ⟨.inr (.inr ⟨rfl, rfl, rfl⟩), ⟨.inr (.inr ⟨rfl, rfl, rfl⟩), ⟨.inr (.inr ⟨rfl, rfl, rfl⟩), trivial⟩⟩⟩⟩⟩⟩⟩⟩⟩⟩⟩⟩, trivial⟩⟩⟩ ⟨rfl, trivial⟩),
   hR 5 rfl rfl (rCn (law_sign (fOf 1) (cOf 1) (tabM (saidL (fOf 1) (cOf 1) (awL 2) (aW.mk 0 true (aM.mk 3 0 1 0 0 (bchB [(saidE awReq)]) ([] : List UInt8) (api_Result.mk 0 0) ([] : List aE) ([] : List aE) ([] : List aC))))) (saidL (fOf 1) (cOf 1) (awL 2) (aW.mk 0 true (aM.mk 3 0 1 0 0 (bchB [(saidE awReq)]) ([] : List UInt8) (api_Result.mk 0 0) ([] : List aE) ([] : List aE) ([] : List aC)))) 1 false (aM.mk 3 0 1 0 0 (bchB [(saidE awReq)]) ([] : List UInt8) (api_Result.mk 0 0) ([] : List aE) ([] : List aE) ([] : List aC)) ‹_› ‹_› (by rfl) (by decide) (by omega) ‹_›) Try.func17 [0, 1, 2, 13, 14] [(.tmp 40, Zi0), (.const (.int .i64 1), vI 1), (.tmp 41, .tv (.agg Zir))] 4 5 ⟨⟨.inl ⟨rfl, rfl⟩, ⟨.inl ⟨rfl, rfl⟩, trivial⟩⟩, ⟨.inl ⟨rfl, rfl⟩, ⟨⟨.inl ⟨rfl, rfl⟩, ⟨.inl ⟨rfl, rfl⟩, ⟨.inl ⟨rfl, rfl⟩, ⟨.inl ⟨rfl, rfl⟩, ⟨.inl ⟨rfl, rfl⟩, ⟨.inl ⟨rfl, rfl⟩, ⟨.inr (.inr ⟨rfl, rfl, rfl⟩), ⟨.inl ⟨rfl, rfl⟩, ⟨.inl ⟨rfl, rfl⟩, ⟨.inr (.inr ⟨rfl, rfl, rfl⟩), ⟨.inr (.inr ⟨rfl, rfl, rfl⟩), ⟨.inr (.inr ⟨rfl, rfl, rfl⟩), trivial⟩⟩⟩⟩⟩⟩⟩⟩⟩⟩⟩⟩, trivial⟩⟩⟩ ⟨rfl, trivial⟩),
   hR 8 rfl rfl (rCn (law_sign (fOf 1) (cOf 1) (tabM (saidL (fOf 1) (cOf 1) (saidL (fOf 1) (cOf 1) (awL 2) (aW.mk 0 true (aM.mk 3 0 1 0 0 (bchB [(saidE awReq)]) ([] : List UInt8) (api_Result.mk 0 0) ([] : List aE) ([] : List aE) ([] : List aC)))) (aW.mk 1 true (aM.mk 3 0 1 0 0 (bchB [(saidE awReq)]) ([] : List UInt8) (api_Result.mk 0 0) ([] : List aE) ([] : List aE) ([] : List aC))))) (saidL (fOf 1) (cOf 1) (saidL (fOf 1) (cOf 1) (awL 2) (aW.mk 0 true (aM.mk 3 0 1 0 0 (bchB [(saidE awReq)]) ([] : List UInt8) (api_Result.mk 0 0) ([] : List aE) ([] : List aE) ([] : List aC)))) (aW.mk 1 true (aM.mk 3 0 1 0 0 (bchB [(saidE awReq)]) ([] : List UInt8) (api_Result.mk 0 0) ([] : List aE) ([] : List aE) ([] : List aC)))) 2 false (aM.mk 3 0 1 0 0 (bchB [(saidE awReq)]) ([] : List UInt8) (api_Result.mk 0 0) ([] : List aE) ([] : List aE) ([] : List aC)) ‹_› ‹_› (by rfl) (by decide) (by omega) ‹_›) Try.func17 [0, 1, 2, 14, 15] [(.tmp 43, Zi0), (.const (.int .i64 2), vI 2), (.tmp 44, .tv (.agg Zir))] 4 5 ⟨⟨.inl ⟨rfl, rfl⟩, ⟨.inl ⟨rfl, rfl⟩, trivial⟩⟩, ⟨.inl ⟨rfl, rfl⟩, ⟨⟨.inl ⟨rfl, rfl⟩, ⟨.inl ⟨rfl, rfl⟩, ⟨.inl ⟨rfl, rfl⟩, ⟨.inl ⟨rfl, rfl⟩, ⟨.inl ⟨rfl, rfl⟩, ⟨.inl ⟨rfl, rfl⟩, ⟨.inr (.inr ⟨rfl, rfl, rfl⟩), ⟨.inl ⟨rfl, rfl⟩, ⟨.inl ⟨rfl, rfl⟩, ⟨.inr (.inr ⟨rfl, rfl, rfl⟩), ⟨.inr (.inr ⟨rfl, rfl, rfl⟩), ⟨.inr (.inr ⟨rfl, rfl, rfl⟩), trivial⟩⟩⟩⟩⟩⟩⟩⟩⟩⟩⟩⟩, trivial⟩⟩⟩ ⟨rfl, trivial⟩),
   hR 9 rfl rfl (q_buildSlice 16 40 (kE false) (k_api_Envelope_ok false) [(saidE (aW.mk 0 true (aM.mk 3 0 1 0 0 (bchB [(saidE awReq)]) ([] : List UInt8) (api_Result.mk 0 0) ([] : List aE) ([] : List aE) ([] : List aC)))), (saidE (aW.mk 1 true (aM.mk 3 0 1 0 0 (bchB [(saidE awReq)]) ([] : List UInt8) (api_Result.mk 0 0) ([] : List aE) ([] : List aE) ([] : List aC)))), (saidE (aW.mk 2 true (aM.mk 3 0 1 0 0 (bchB [(saidE awReq)]) ([] : List UInt8) (api_Result.mk 0 0) ([] : List aE) ([] : List aE) ([] : List aC))))] [⟨0, .tmp 39, .agg [dI Zit.f_Signer, dU Zit.f_Body], 0⟩, ⟨1, .tmp 42, .agg [dI Ziu.f_Signer, dU Ziu.f_Body], 2⟩, ⟨2, .tmp 45, .agg [dI Ziv.f_Signer, dU Ziv.f_Body], 4⟩] (cs := [dI Zit.f_Signer, dU Zit.f_Body, dI Ziu.f_Signer, dU Ziu.f_Body, dI Ziv.f_Signer, dU Ziv.f_Body]) Try.underlying31 iat_40 rfl zero_40 rfl rfl rfl (Nat.le_of_ble_eq_true rfl) (part_cons rfl rfl (Nat.le_of_ble_eq_true rfl) (part_cons rfl rfl (Nat.le_of_ble_eq_true rfl) (part_cons rfl rfl (Nat.le_of_ble_eq_true rfl) part_ok))) (by kernel_rfl) (wk_eq (by kernel_rfl)) (lt_of rfl) trivial)] ?_
 refine tN Ziy ?_
 refine T.turn (s' := ⟨Ziz, Zj0⟩) (fun _ _ hG => Gs.freeze (s := Ziy) 16 (el := elOf (kE false) [(saidE (aW.mk 0 true (aM.mk 3 0 1 0 0 (bchB [(saidE awReq)]) ([] : List UInt8) (api_Result.mk 0 0) ([] : List aE) ([] : List aE) ([] : List aC)))), (saidE (aW.mk 1 true (aM.mk 3 0 1 0 0 (bchB [(saidE awReq)]) ([] : List UInt8) (api_Result.mk 0 0) ([] : List aE) ([] : List aE) ([] : List aC)))), (saidE (aW.mk 2 true (aM.mk 3 0 1 0 0 (bchB [(saidE awReq)]) ([] : List UInt8) (api_Result.mk 0 0) ([] : List aE) ([] : List aE) ([] : List aC))))]) (sz := (kE false).sz) (n := [(saidE (aW.mk 0 true (aM.mk 3 0 1 0 0 (bchB [(saidE awReq)]) ([] : List UInt8) (api_Result.mk 0 0) ([] : List aE) ([] : List aE) ([] : List aC)))), (saidE (aW.mk 1 true (aM.mk 3 0 1 0 0 (bchB [(saidE awReq)]) ([] : List UInt8) (api_Result.mk 0 0) ([] : List aE) ([] : List aE) ([] : List aC)))), (saidE (aW.mk 2 true (aM.mk 3 0 1 0 0 (bchB [(saidE awReq)]) ([] : List UInt8) (api_Result.mk 0 0) ([] : List aE) ([] : List aE) ([] : List aC))))].length) rfl (kk2 (kk4 ⟨(.inr (.inr ⟨rfl, rfl, rfl, (fun h => by cases h), rfl, rfl, Nat.le_of_eq (Nat.zero_add _), fun i j _ => by rw [Nat.zero_add]⟩)), trivial⟩)) ⟨(.inr ⟨by decide, .inl rfl⟩), ⟨(.inr ⟨by decide, .inl rfl⟩), ⟨(.inr ⟨by decide, .inl rfl⟩), ⟨(.inr ⟨by decide, .inl rfl⟩), ⟨(.inr ⟨by decide, .inl rfl⟩), ⟨(.inr ⟨by decide, .inl rfl⟩), ⟨(.inr ⟨by decide, .inl rfl⟩), ⟨(.inr ⟨by decide, .inl rfl⟩), ⟨(.inr ⟨by decide, .inl rfl⟩), ⟨(.inr ⟨by decide, .inl rfl⟩), ⟨(.inr ⟨by decide, .inl rfl⟩), ⟨(.inr ⟨by decide, .inl rfl⟩), ⟨(.inr ⟨by decide, .inl rfl⟩), ⟨(.inr ⟨by decide, .inl rfl⟩), ⟨(.inr ⟨by decide, .inl rfl⟩), ⟨(.inr ⟨by decide, .inl rfl⟩), ⟨(.inl ⟨rfl, rfl⟩), trivial⟩⟩⟩⟩⟩⟩⟩⟩⟩⟩⟩⟩⟩⟩⟩⟩⟩ hG) ?_
 refine T.turn (s' := ⟨Zj1, Zj2⟩) (fun _ _ hG => Gs.i2 [0, 1, 2, 21, 4, 27, 34, 7, 43, 9, 54, 11, 12, 68, 83, 15, 100] (bm 7 127) (t1 := Zj1) (t2 := Ziz) (h1 := Zj2) (h2 := Zj0) (congrArg (fun (q1 : List aE) => ([vB false, pv 4 0, pv 7 0, pv 9 0, pv 11 0, pv 12 0, slV false false (kE false) q1] : List AV)) (by rfl)) (cg3 (fun (q1 : List (authn_pair × Bool)) (q2 : Nat) (q3 : List aE) => ([Zi4, .live (mpK f_authn_pair kBool q1), .live (.box 83 [dB true, Zi7, Zi3, .own 15 (kE false).sz 0 q2]), .dead, Zi8, .dead, .dead, Zie, .dead, Zil, .dead, Zip, .live (.box 51 Zir), .dead, .dead, .live (arrK 40 (kE false) q3), .dead] : List HS)) (by rfl) (by rfl) (by rfl)) hG) ?_
 refine sD [[], [0], [], [], [3], [2, 3, 4], [0, 1, 2, 3, 4, 5], [0, 1, 2, 3, 4, 5, 6], [0, 1, 2, 3, 4, 5, 6, 7], [0, 1, 2, 3, 4, 5, 6, 7], [], [0, 1, 2, 3, 4, 5, 6, 7, 8, 10], [0, 1, 2, 3, 4, 5, 6, 7, 8, 9, 10, 11]] [hR 4 rfl rfl (q_slice false false (kE false) awV (awV.drop 1) 1 awV.length (lo := some (.const (.int .i64 1), 1)) (hi := none) Try.underlying31 iat_40 rfl rfl rfl rfl rfl (by decide) (by omega) (by rw [List.take_length]) (lt_of rfl) ⟨rfl, trivial⟩),
   hR 6 rfl rfl (rCa (cert_Prepared (fOf 1) (cOf 1) (tabM (awL 5)) false (aC.mk (saidE awPre) (awV.drop 1)) ‹_› ‹_› (by decide) (by decide) ‹_›) Try.func25 [0, 1] [(.tmp 49, pv 0 0), (.tmp 53, .tv (.agg [Zin, Zio, .d (dsl false false (kE false) (awV.drop 1))]))] 2 2)] ?_
 refine sD [[], [0], [], [], [3], [2, 3, 4], [0, 1, 2, 3, 4, 5], [0, 1, 2, 3, 4, 5, 6], [0, 1, 2, 3, 4, 5, 6, 7], [0, 1, 2, 3, 4, 5, 6, 7], [], [0, 1, 2, 3, 4, 5, 6, 7, 8, 10], [0, 1, 2, 3, 4, 5, 6, 7, 8, 9, 10, 11]] [hR 4 rfl rfl (q_slice false false (kE false) awV ((awV.take 2).drop 1) 1 2 (lo := some (.const (.int .i64 1), 1)) (hi := some (.const (.int .i64 2), 2)) Try.underlying31 iat_40 rfl rfl rfl rfl rfl (by omega) (by decide) rfl (lt_of rfl) ⟨rfl, ⟨rfl, trivial⟩⟩),
   hR 6 rfl rfl (rCa (cert_Prepared (fOf 1) (cOf 1) (tabM (awL 5)) false (aC.mk (saidE awPre) ((awV.take 2).drop 1)) ‹_› ‹_› (by decide) (by decide) ‹_›) Try.func25 [0, 1] [(.tmp 59, pv 0 0), (.tmp 63, .tv (.agg [Zin, Zio, .d (dsl false false (kE false) ((awV.take 2).drop 1))]))] 2 2)] ?_
 refine sD [[], [0], [], [], [3], [3, 4], [], [6], [6, 7], [3, 4, 5, 6, 7, 8], [2, 3, 4, 5, 6, 7, 8, 9], [0, 1, 2, 3, 4, 5, 6, 7, 8, 9, 10], [0, 1, 2, 3, 4, 5, 6, 7, 8, 9, 10, 11], [0, 1, 2, 3, 4, 5, 6, 7, 8, 9, 10, 11, 12], [0, 1, 2, 3, 4, 5, 6, 7, 8, 9, 10, 11, 12], [], [0, 1, 2, 3, 4, 5, 6, 7, 8, 9, 10, 11, 12, 13, 15], [0, 1, 2, 3, 4, 5, 6, 7, 8, 9, 10, 11, 12, 13, 14, 15, 16]] [hR 4 rfl rfl (q_index false false (kE false) awV 1 (k := .i64) (i := 1) Try.underlying31 iat_40 rfl rfl (by decide) (lt_of rfl) ⟨rfl, trivial⟩),
   hR 7 rfl rfl (q_index false false (kE false) awV 1 (k := .i64) (i := 1) Try.underlying31 iat_40 rfl rfl (by decide) (lt_of rfl) ⟨rfl, trivial⟩),
   hR 9 rfl rfl (q_buildSlice 19 40 (kE false) (k_api_Envelope_ok false) [(awV.getD 1 zE), (awV.getD 1 zE)] [⟨0, .tmp 73, .agg [Zj3, Zj4], 0⟩, ⟨1, .tmp 76, .agg [Zj3, Zj4], 2⟩] (cs := [Zj3, Zj4, Zj3, Zj4]) Try.underlying31 iat_40 rfl zero_40 rfl rfl rfl (Nat.le_of_ble_eq_true rfl) (part_cons rfl rfl (Nat.le_of_ble_eq_true rfl) (part_cons rfl rfl (Nat.le_of_ble_eq_true rfl) part_ok)) (by kernel_rfl) (wk_eq (by kernel_rfl)) (lt_of rfl) trivial),
   hR 11 rfl rfl (ORule.frz 1 78 19 40 (kE false) [(awV.getD 1 zE), (awV.getD 1 zE)] (av := .tv (.agg [Zin, Zio, .own 19 (kE false).sz 0 [(awV.getD 1 zE), (awV.getD 1 zE)].length])) (rCa (cert_Prepared (fOf 1) (cOf 1) (tabM (awL 5)) false (aC.mk (saidE awPre) [(awV.getD 1 zE), (awV.getD 1 zE)]) ‹_› ‹_› (by decide) (by decide) ‹_›) Try.func25 [0, 1] [(.tmp 69, pv 0 0), (.tmp 78, .tv (.agg [Zin, Zio, .d (dsl false false (kE false) [(awV.getD 1 zE), (awV.getD 1 zE)])]))] 2 2) rfl (.inr (kk2 ⟨(.inr ⟨rfl, rfl, rfl, (fun h => by cases h), rfl, rfl, Nat.le_of_eq (Nat.zero_add _), fun i j _ => by rw [Nat.zero_add]⟩), trivial⟩)) (by intro h; cases h) rfl rfl)] ?_
 refine sR [hR 5 rfl rfl (rCa (cert_Prepared (fOf 1) (cOf 1) (tabM (awL 5)) false (aC.mk (saidE awPre) awV) ‹_› ‹_› (by decide) (by decide) ‹_›) Try.func25 [0, 1] [(.tmp 84, pv 0 0), (.tmp 87, .tv (.agg [Zin, Zio, .d (dsl false false (kE false) awV)]))] 2 2)] ?_
 refine sR [hR 3 rfl rfl (rCa (cert_Request (fOf 1) (cOf 1) (tabM (awL 5)) false (saidE awReq) ‹_› ‹_› (by decide) (by decide)) Try.func10 [0, 1] [(.tmp 93, pv 0 0), (.tmp 94, .tv (.agg Zid))] 2 2)] ?_
 by_cases hq1 : (ceE (checkE (fOf 1) (cOf 1) (tabM (awL 5))) (fOf 1) (aC.mk (saidE awPre) (awV.drop 1)) 3 (2 * (fOf 1))) = 0
 ·by_cases hq2 : (ceV (checkE (fOf 1) (cOf 1) (tabM (awL 5))) (fOf 1) (aC.mk (saidE awPre) (awV.drop 1)) 3 (2 * (fOf 1))).f_Seq = 1
  ·by_cases hq3 : (ceE (checkE (fOf 1) (cOf 1) (tabM (awL 5))) (fOf 1) (aC.mk (saidE awPre) ((awV.take 2).drop 1)) 3 (2 * (fOf 1))) = 32
   ·by_cases hq4 : (ceE (checkE (fOf 1) (cOf 1) (tabM (awL 5))) (fOf 1) (aC.mk (saidE awPre) [(awV.getD 1 zE), (awV.getD 1 zE)]) 3 (2 * (fOf 1))) = 33
    ·by_cases hq5 : (ceE (checkE (fOf 1) (cOf 1) (tabM (awL 5))) (fOf 1) (aC.mk (saidE awPre) awV) 3 (2 * (fOf 1))) = 133
     ·by_cases hq6 : (rqE (checkE (fOf 1) (cOf 1) (tabM (awL 5))) (fOf 1) (saidE awReq)) = 0
      ·by_cases hq7 : (rqV (checkE (fOf 1) (cOf 1) (tabM (awL 5))) (fOf 1) (saidE awReq)).f_Stamp = 1
       ·refine sR [hY 3 (dT hq1),
          hY 4 (dT hq1),
          hY 5 (dT hq1),
          hP 6 (dT hq1),
          hY 8 (dT hq2),
          hY 9 (dT hq2),
          hP 10 (dT hq2),
          hY 12 (dT hq3),
          hY 13 (dT hq3),
          hP 14 (dT hq3),
          hY 16 (dT hq4),
          hY 17 (dT hq4),
          hP 18 (dT hq4),
          hY 20 (dT hq5),
          hY 21 (dT hq5),
          hP 22 (dT hq5),
          hY 24 (dT hq6),
          hY 25 (dT hq6),
          hY 26 (dT hq6),
          hP 27 (dT hq6),
          hY 29 (dT hq7),
          hY 30 (dT hq7),
          hS 31 (oY rfl rfl rfl rfl (lt_of rfl) (dT hq7) (q_strOf () (rqV (checkE (fOf 1) (cOf 1) (tabM (awL 5))) (fOf 1) (saidE awReq)).f_Op (ys := (dU (rqV (checkE (fOf 1) (cOf 1) (tabM (awL 5))) (fOf 1) (saidE awReq)).f_Op)) (rhs := []) Try.underlying33 Try.underlying5 Try.underlying9 (src_sl false false kU8 (rqV (checkE (fOf 1) (cOf 1) (tabM (awL 5))) (fOf 1) (saidE awReq)).f_Op) (lt_of rfl) (by exact trivial))),
          hY 32 (dT hq7),
          hP 33 (dT hq7)] ?_
        refine T.ret ?_
        exact eRt 0 (.one (dB (decide ((rqV (checkE (fOf 1) (cOf 1) (tabM (awL 5))) (fOf 1) (saidE awReq)).f_Op = [111, 112])))) [] (cB (by rfl)) trivial
       exact absurd (by decide +kernel) hq7
      exact absurd (by decide +kernel) hq6
     exact absurd (by decide +kernel) hq5
    exact absurd (by decide +kernel) hq4
   exact absurd (by decide +kernel) hq3
  exact absurd (by decide +kernel) hq2
 exact absurd (by decide +kernel) hq1
end Go.Proofs.Ytalapplihdmenaa.Q
