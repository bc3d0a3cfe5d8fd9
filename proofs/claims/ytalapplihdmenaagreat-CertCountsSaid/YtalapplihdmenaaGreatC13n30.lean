import Derived.Test.YtalapplihdmenaaGreatC13n29
namespace Go.Proofs.YtalapplihdmenaaGreat.Q
open Go Go.RowKit
set_option linter.unusedVariables false
set_option linter.unusedSimpArgs false
set_option maxRecDepth 100000
set_option maxHeartbeats 4000000
abbrev Zia : AV := .tv (.agg [.ptr 0 0, .ptr 2 0])
abbrev Zib : SV := .d (.val (.slice none 0 0))
abbrev Zic : List AV := [vB false, pv 4 0, pv 7 0]
abbrev Zid : SV := dI (cOf 1)
abbrev Zie : HS := .live (.box 98 [dI (3 * (fOf 1) + 1), Zid, .mref 1])
abbrev Zif := (aW.mk 1000 true (aM.mk 1 0 0 1000 1 [] [(111 : UInt8), (112 : UInt8)] (api_Result.mk 0 0) ([] : List aE) ([] : List aE) ([] : List aC)))
abbrev Zig := (saidL (fOf 1) (cOf 1) ([] : List aE) Zif)
abbrev Zih : SV := dI (fOf 1)
abbrev Zii : HS := .live (.box 31 [.ptr 0 0, .ptr 2 0])
abbrev Zij : List HS := [Zie, .live (mpK f_authn_pair kBool (tabM Zig)), .live (.box 75 [dB true, Zih, Zid, .own 6 (kE false).sz 0 Zig.length]), .dead, Zii, .dead, .live (arrK 35 (kE false) Zig), .live (.box 35 [dI (saidE Zif).f_Signer, dU (saidE Zif).f_Body])]
abbrev Zik : HS := .live (mpK f_authn_pair kBool (tabM (awL 1)))
abbrev Zil : HS := .live (.box 75 [dB true, Zih, Zid, .own 6 (kE false).sz 0 (awL 1).length])
abbrev Zim : HS := .live (arrK 35 (kE false) (awL 1))
abbrev Zin : List SV := [dI (saidE awReq).f_Signer, dU (saidE awReq).f_Body]
abbrev Zio : HS := .live (.box 35 Zin)
abbrev Zip : List HS := [Zie, Zik, Zil, .dead, Zii, .dead, Zim, Zio]
abbrev Ziq : St := ⟨[vB false, pv 4 0, pv 7 0, pv 9 0], [Zie, Zik, Zil, .dead, Zii, .dead, Zim, Zio, .live (arrK 35 (kE false) [(saidE awReq)]), .live (.box 46 [dI 2, dI 0, dI 1, dI 0, dI 0, dS [], Zib, dI 0, dI 0, .own 8 (kE false).sz 0 [(saidE awReq)].length, Zib, Zib])]⟩
abbrev Zir : List SV := [dI 2, dI 0, dI 1, dI 0, dI 0, dS (bchB [(saidE awReq)]), Zib, dI 0, dI 0, .d (dsl false false (kE false) [(saidE awReq)]), Zib, Zib]
abbrev Zis : List AV := [vB false, pv 4 0, pv 7 0, pv 9 0, pv 11 0]
abbrev Zit := (aW.mk 0 true (aM.mk 2 0 1 0 0 (bchB [(saidE awReq)]) ([] : List UInt8) (api_Result.mk 0 0) [(saidE awReq)] ([] : List aE) ([] : List aC)))
abbrev Ziu := (saidL (fOf 1) (cOf 1) (awL 1) Zit)
abbrev Ziv : HS := .live (.box 46 Zir)
abbrev Ziw : List HS := [Zie, .live (mpK f_authn_pair kBool (tabM Ziu)), .live (.box 75 [dB true, Zih, Zid, .own 10 (kE false).sz 0 Ziu.length]), .dead, Zii, .dead, .dead, Zio, .dead, Ziv, .live (arrK 35 (kE false) Ziu), .live (.box 35 [dI (saidE Zit).f_Signer, dU (saidE Zit).f_Body])]
abbrev Zix : SV := dI (saidE awPre).f_Signer
abbrev Ziy : SV := dU (saidE awPre).f_Body
abbrev Ziz : HS := .live (.box 35 [Zix, Ziy])
abbrev Zj0 : List HS := [Zie, .live (mpK f_authn_pair kBool (tabM (awL 2))), .live (.box 75 [dB true, Zih, Zid, .own 10 (kE false).sz 0 (awL 2).length]), .dead, Zii, .dead, .dead, Zio, .dead, Ziv, .live (arrK 35 (kE false) (awL 2)), Ziz]
abbrev Zj1 : List SV := [dI 3, dI 0, dI 1, dI 0, dI 0, dS (bchB [(saidE awReq)]), Zib, dI 0, dI 0, Zib, Zib, Zib]
abbrev Zj2 := (aM.mk 3 0 1 0 0 (bchB [(saidE awReq)]) ([] : List UInt8) (api_Result.mk 0 0) ([] : List aE) ([] : List aE) ([] : List aC))
abbrev Zj3 := (saidE (aW.mk 0 true Zj2))
abbrev Zj4 := (saidE (aW.mk 1 true Zj2))
abbrev Zj5 := (saidE (aW.mk 2 true Zj2))
abbrev Zj6 := (saidL (fOf 1) (cOf 1) (saidL (fOf 1) (cOf 1) (saidL (fOf 1) (cOf 1) (awL 2) (aW.mk 0 true Zj2)) (aW.mk 1 true Zj2)) (aW.mk 2 true Zj2))
abbrev Zj7 : HS := .live (.box 75 [dB true, Zih, Zid, .own 15 (kE false).sz 0 Zj6.length])
abbrev Zj8 : St := ⟨[vB false, pv 4 0, pv 7 0, pv 9 0, pv 11 0, pv 12 0, ownV 16 (kE false) 0 [Zj3, Zj4, Zj5].length], [Zie, .live (mpK f_authn_pair kBool (tabM Zj6)), Zj7, .dead, Zii, .dead, .dead, Zio, .dead, Ziv, .dead, Ziz, .live (.box 46 Zj1), .dead, .dead, .live (arrK 35 (kE false) Zj6), .live (arrK 35 (kE false) [Zj3, Zj4, Zj5])]⟩
abbrev Zj9 : List AV := [vB false, pv 4 0, pv 7 0, pv 9 0, pv 11 0, pv 12 0, slV false false (kE false) [Zj3, Zj4, Zj5]]
abbrev Zja : List HS := [Zie, .live (mpK f_authn_pair kBool (tabM Zj6)), Zj7, .dead, Zii, .dead, .dead, Zio, .dead, Ziv, .dead, Ziz, .live (.box 46 Zj1), .dead, .dead, .live (arrK 35 (kE false) Zj6), .dead]
abbrev Zjb : List AV := [vB false, pv 4 0, pv 7 0, pv 9 0, pv 11 0, pv 12 0, slV false false (kE false) awV]
abbrev Zjc : List HS := [Zie, .live (mpK f_authn_pair kBool (tabM (awL 5))), .live (.box 75 [dB true, Zih, Zid, .own 15 (kE false).sz 0 (awL 5).length]), .dead, Zii, .dead, .dead, Zio, .dead, Ziv, .dead, Ziz, .live (.box 46 Zj1), .dead, .dead, .live (arrK 35 (kE false) (awL 5)), .dead]
abbrev Zjd : SV := dI (awV.getD 1 zE).f_Signer
abbrev Zje : SV := dU (awV.getD 1 zE).f_Body
theorem law_awake : Holds Tryz.prog 7 ⟨[], [], vB true, []⟩ := by
 refine Holds.of Tryz.func7 rfl (N := 132) Tryz.ntmps7 rfl fun w0 B0 S0 U0 => ?_
 show T _ (mkBase 132 0 w0 S0 U0 B0) ⟨[], []⟩ _ _
 have hf1 := fOf_ok 1
 have hu1 := cOf_ok 1
 obtain ⟨ok1, ok2, ok3, ok4, ok5, ok6, ok7⟩ := aw_ok
 refine sR [] ?_
 refine sR [hR 1 rfl rfl (rCa (law_begun (quaestorlaw03_Size.mk 1 1) ) Tryz.func8 [0, 1, 2, 3] [(.tmp 17, .tv (.agg [dI 1, dI 1]))] 0 4)] ?_
 refine sR [hR 1 rfl rfl (q_buildSlice 5 5 kU8 kU8_ok [(111 : UInt8), (112 : UInt8)] [⟨0, .const (.int .u8 111), .one (.d (.val (.int .u8 111))), 0⟩, ⟨1, .const (.int .u8 112), .one (.d (.val (.int .u8 112))), 1⟩] (cs := [.d (.val (.int .u8 111)), .d (.val (.int .u8 112))]) Tryz.underlying33 iat_5 rfl zero_5 rfl rfl rfl (Nat.le_of_ble_eq_true rfl) (part_cons rfl rfl (Nat.le_of_ble_eq_true rfl) (part_cons rfl rfl (Nat.le_of_ble_eq_true rfl) part_ok)) (by kernel_rfl) (wk_eq (by kernel_rfl)) (lt_of rfl) ⟨rfl, ⟨rfl, trivial⟩⟩),
   hR 2 rfl rfl (r_convLit 5 5 kU8 [(111 : UInt8), (112 : UInt8)] Tryz.underlying33 Tryz.underlying5 (by decide) (lt_of rfl) trivial),
   hR 4 rfl rfl (rCn (law_sign (fOf 1) (cOf 1) ([] : List (authn_pair × Bool)) ([] : List aE) 1000 false (aM.mk 1 0 0 1000 1 [] [(111 : UInt8), (112 : UInt8)] (api_Result.mk 0 0) ([] : List aE) ([] : List aE) ([] : List aC)) ‹_› ‹_› (by rfl) (by (simp [maxLen, -List.getD_eq_getElem?_getD] <;> omega)) (by omega) ‹_›) Tryz.func16 [0, 1, 2, 3, 6] [(.tmp 19, Zia), (.const (.int .i64 1000), vI 1000), (.tmp 22, .tv (.agg [dI 1, dI 0, dI 0, dI 1000, dI 1, dS [], .d (dsl false true kU8 [(111 : UInt8), (112 : UInt8)]), dI 0, dI 0, Zib, Zib, Zib]))] 4 5 ⟨⟨.inl ⟨rfl, rfl⟩, ⟨.inl ⟨rfl, rfl⟩, trivial⟩⟩, ⟨.inl ⟨rfl, rfl⟩, ⟨⟨.inl ⟨rfl, rfl⟩, ⟨.inl ⟨rfl, rfl⟩, ⟨.inl ⟨rfl, rfl⟩, ⟨.inl ⟨rfl, rfl⟩, ⟨.inl ⟨rfl, rfl⟩, ⟨.inl ⟨rfl, rfl⟩, ⟨.inr (.inr ⟨rfl, (fun h => by cases h), rfl, rfl, rfl⟩), ⟨.inl ⟨rfl, rfl⟩, ⟨.inl ⟨rfl, rfl⟩, ⟨.inr (.inr ⟨rfl, rfl, rfl⟩), ⟨.inr (.inr ⟨rfl, rfl, rfl⟩), ⟨.inr (.inr ⟨rfl, rfl, rfl⟩), trivial⟩⟩⟩⟩⟩⟩⟩⟩⟩⟩⟩⟩, trivial⟩⟩⟩ ⟨rfl, trivial⟩)] ?_
 refine tN ⟨Zic, Zij⟩ ?_
 refine T.turn (s' := ⟨Zic, Zip⟩) (fun _ _ hG => Gs.i2 [0, 1, 2, 12, 4, 18, 6, 7] [true, true, true] (h1 := Zip) (h2 := Zij) (t1 := Zic) rfl (cg5 (fun (q1 : List (authn_pair × Bool)) (q2 : Nat) (q3 : List aE) (q4 : Int) (q5 : List UInt8) => ([Zie, .live (mpK f_authn_pair kBool q1), .live (.box 75 [dB true, Zih, Zid, .own 6 (kE false).sz 0 q2]), .dead, Zii, .dead, .live (arrK 35 (kE false) q3), .live (.box 35 [dI q4, dU q5])] : List HS)) (by rfl) (by rfl) (by rfl) (by rfl) (by rfl)) hG) ?_
 refine sR [hR 1 rfl rfl (q_buildSlice 8 35 (kE false) (k_api_Envelope_ok false) [(saidE awReq)] [⟨0, .tmp 24, .agg Zin, 0⟩] (cs := [dI (saidE awReq).f_Signer, dU (saidE awReq).f_Body]) Tryz.underlying36 iat_35 rfl zero_35 rfl rfl rfl (Nat.le_of_ble_eq_true rfl) (part_cons rfl rfl (Nat.le_of_ble_eq_true rfl) part_ok) (by kernel_rfl) (wk_eq (by kernel_rfl)) (lt_of rfl) trivial)] ?_
 refine tN Ziq ?_
 refine T.turn (s' := ⟨[vB false, pv 4 0, pv 7 0, pv 9 0], [Zie, Zik, Zil, .dead, Zii, .dead, Zim, Zio, .dead, .live (.box 46 [dI 2, dI 0, dI 1, dI 0, dI 0, dS [], Zib, dI 0, dI 0, .d (dsl false false (kE false) [(saidE awReq)]), Zib, Zib])]⟩) (fun _ _ hG => Gs.freeze (s := Ziq) 8 (el := elOf (kE false) [(saidE awReq)]) (sz := (kE false).sz) (n := [(saidE awReq)].length) rfl (kk4 trivial) ⟨(.inr ⟨by decide, .inl rfl⟩), ⟨(.inr ⟨by decide, .inl rfl⟩), ⟨(.inr ⟨by decide, .inl rfl⟩), ⟨(.inr ⟨by decide, .inl rfl⟩), ⟨(.inr ⟨by decide, .inl rfl⟩), ⟨(.inr ⟨by decide, .inl rfl⟩), ⟨(.inr ⟨by decide, .inl rfl⟩), ⟨(.inr ⟨by decide, .inl rfl⟩), ⟨(.inl ⟨rfl, rfl⟩), ⟨(.inr ⟨by decide, .inr ⟨rfl, ⟨.inl rfl, (kk8 ⟨(.inr ⟨rfl, rfl, rfl, (fun h => by cases h), rfl, rfl, Nat.le_of_eq (Nat.zero_add _), fun i j _ => by rw [Nat.zero_add]⟩), (kk2 trivial)⟩)⟩⟩⟩), trivial⟩⟩⟩⟩⟩⟩⟩⟩⟩⟩ hG) ?_
 refine sR [hR 2 rfl rfl (rCa (ref12_Batch false false false [(saidE awReq)] (by decide)) Tryz.func15 [] [(.tmp 28, slV false false (kE false) [(saidE awReq)])] 0 0)] ?_
 refine sR [hR 2 rfl rfl (rCn (law_sign (fOf 1) (cOf 1) (tabM (awL 1)) (awL 1) 0 false (aM.mk 2 0 1 0 0 (bchB [(saidE awReq)]) ([] : List UInt8) (api_Result.mk 0 0) [(saidE awReq)] ([] : List aE) ([] : List aC)) ‹_› ‹_› (by rfl) (by decide) (by omega) ‹_›) Tryz.func16 [0, 1, 2, 6, 10] [(.tmp 31, Zia), (.const (.int .i64 0), vI 0), (.tmp 32, .tv (.agg Zir))] 4 5 ⟨⟨.inl ⟨rfl, rfl⟩, ⟨.inl ⟨rfl, rfl⟩, trivial⟩⟩, ⟨.inl ⟨rfl, rfl⟩, ⟨⟨.inl ⟨rfl, rfl⟩, ⟨.inl ⟨rfl, rfl⟩, ⟨.inl ⟨rfl, rfl⟩, ⟨.inl ⟨rfl, rfl⟩, ⟨.inl ⟨rfl, rfl⟩, ⟨.inl ⟨rfl, rfl⟩, ⟨.inr (.inr ⟨rfl, rfl, rfl⟩), ⟨.inl ⟨rfl, rfl⟩, ⟨.inl ⟨rfl, rfl⟩, ⟨.inl ⟨rfl, rfl⟩, ⟨.inr (.inr ⟨rfl, rfl, rfl⟩), ⟨.inr (.inr ⟨rfl, rfl, rfl⟩), trivial⟩⟩⟩⟩⟩⟩⟩⟩⟩⟩⟩⟩, trivial⟩⟩⟩ ⟨rfl, trivial⟩)] ?_
 refine tN ⟨Zis, Ziw⟩ ?_
 refine T.turn (s' := ⟨Zis, Zj0⟩) (fun _ _ hG => Gs.i2 [0, 1, 2, 16, 4, 22, 29, 7, 38, 9, 10, 11] (bm 5 31) (h1 := Zj0) (h2 := Ziw) (t1 := Zis) rfl (cg5 (fun (q1 : List (authn_pair × Bool)) (q2 : Nat) (q3 : List aE) (q4 : Int) (q5 : List UInt8) => ([Zie, .live (mpK f_authn_pair kBool q1), .live (.box 75 [dB true, Zih, Zid, .own 10 (kE false).sz 0 q2]), .dead, Zii, .dead, .dead, Zio, .dead, Ziv, .live (arrK 35 (kE false) q3), .live (.box 35 [dI q4, dU q5])] : List HS)) (by rfl) (by rfl) (by rfl) (by rfl) (by rfl)) hG) ?_
 refine sR [] ?_
 refine sD [[], [], [0, 1], [], [], [0, 1, 2, 3, 4], [], [], [0, 1, 2, 3, 4, 5, 6, 7], [0, 1, 2, 3, 4, 5, 6, 7, 8], [0, 1, 2, 3, 4, 5, 6, 7, 8, 9]] [hR 2 rfl rfl (rCn (law_sign (fOf 1) (cOf 1) (tabM (awL 2)) (awL 2) 0 false (aM.mk 3 0 1 0 0 (bchB [(saidE awReq)]) ([] : List UInt8) (api_Result.mk 0 0) ([] : List aE) ([] : List aE) ([] : List aC)) ‹_› ‹_› (by rfl) (by decide) (by omega) ‹_›) Tryz.func16 [0, 1, 2, 10, 13] [(.tmp 37, Zia), (.const (.int .i64 0), vI 0), (.tmp 38, .tv (.agg Zj1))] 4 5 ⟨⟨.inl ⟨rfl, rfl⟩, ⟨.inl ⟨rfl, rfl⟩, trivial⟩⟩, ⟨.inl ⟨rfl, rfl⟩, ⟨⟨.inl ⟨rfl, rfl⟩, ⟨.inl ⟨rfl, rfl⟩, ⟨.inl ⟨rfl, rfl⟩, ⟨.inl ⟨rfl, rfl⟩, ⟨.inl ⟨rfl, rfl⟩, ⟨.inl ⟨rfl, rfl⟩, ⟨.inr (.inr ⟨rfl, rfl, rfl⟩), ⟨.inl ⟨rfl, rfl⟩, ⟨.inl ⟨rfl, rfl⟩, ⟨.inr (.inr ⟨rfl, rfl, rfl⟩), ⟨.inr (.inr ⟨rfl, rfl, rfl⟩), ⟨.inr (.inr ⟨rfl, rfl, rfl⟩), trivial⟩⟩⟩⟩⟩⟩⟩⟩⟩⟩⟩⟩, trivial⟩⟩⟩ ⟨rfl, trivial⟩),
   hR 5 rfl rfl (rCn (law_sign (fOf 1) (cOf 1) (tabM (saidL (fOf 1) (cOf 1) (awL 2) (aW.mk 0 true (aM.mk 3 0 1 0 0 (bchB [(saidE awReq)]) ([] : List UInt8) (api_Result.mk 0 0) ([] : List aE) ([] : List aE) ([] : List aC))))) (saidL (fOf 1) (cOf 1) (awL 2) (aW.mk 0 true (aM.mk 3 0 1 0 0 (bchB [(saidE awReq)]) ([] : List UInt8) (api_Result.mk 0 0) ([] : List aE) ([] : List aE) ([] : List aC)))) 1 false (aM.mk 3 0 1 0 0 (bchB [(saidE awReq)]) ([] : List UInt8) (api_Result.mk 0 0) ([] : List aE) ([] : List aE) ([] : List aC)) ‹_› ‹_› (by rfl) (by decide) (by omega) ‹_›) Tryz.func16 [0, 1, 2, 13, 14] [(.tmp 40, Zia), (.const (.int .i64 1), vI 1), (.tmp 41, .tv (.agg Zj1))] 4 5 ⟨⟨.inl ⟨rfl, rfl⟩, ⟨.inl ⟨rfl, rfl⟩, trivial⟩⟩, ⟨.inl ⟨rfl, rfl⟩, ⟨⟨.inl ⟨rfl, rfl⟩, ⟨.inl ⟨rfl, rfl⟩, ⟨.inl ⟨rfl, rfl⟩, ⟨.inl ⟨rfl, rfl⟩, ⟨.inl ⟨rfl, rfl⟩, ⟨.inl ⟨rfl, rfl⟩, ⟨.inr (.inr ⟨rfl, rfl, rfl⟩), ⟨.inl ⟨rfl, rfl⟩, ⟨.inl ⟨rfl, rfl⟩, ⟨.inr (.inr ⟨rfl, rfl, rfl⟩), ⟨.inr (.inr ⟨rfl, rfl, rfl⟩), ⟨.inr (.inr ⟨rfl, rfl, rfl⟩), trivial⟩⟩⟩⟩⟩⟩⟩⟩⟩⟩⟩⟩, trivial⟩⟩⟩ ⟨rfl, trivial⟩),
   hR 8 rfl rfl (rCn (law_sign (fOf 1) (cOf 1) (tabM (saidL (fOf 1) (cOf 1) (saidL (fOf 1) (cOf 1) (awL 2) (aW.mk 0 true (aM.mk 3 0 1 0 0 (bchB [(saidE awReq)]) ([] : List UInt8) (api_Result.mk 0 0) ([] : List aE) ([] : List aE) ([] : List aC)))) (aW.mk 1 true (aM.mk 3 0 1 0 0 (bchB [(saidE awReq)]) ([] : List UInt8) (api_Result.mk 0 0) ([] : List aE) ([] : List aE) ([] : List aC))))) (saidL (fOf 1) (cOf 1) (saidL (fOf 1) (cOf 1) (awL 2) (aW.mk 0 true (aM.mk 3 0 1 0 0 (bchB [(saidE awReq)]) ([] : List UInt8) (api_Result.mk 0 0) ([] : List aE) ([] : List aE) ([] : List aC)))) (aW.mk 1 true (aM.mk 3 0 1 0 0 (bchB [(saidE awReq)]) ([] : List UInt8) (api_Result.mk 0 0) ([] : List aE) ([] : List aE) ([] : List aC)))) 2 false (aM.mk 3 0 1 0 0 (bchB [(saidE awReq)]) ([] : List UInt8) (api_Result.mk 0 0) ([] : List aE) ([] : List aE) ([] : List aC)) ‹_› ‹_› (by rfl) (by decide) (by omega) ‹_›) Tryz.func16 [0, 1, 2, 14, 15] [(.tmp 43, Zia), (.const (.int .i64 2), vI 2), (.tmp 44, .tv (.agg Zj1))] 4 5 ⟨⟨.inl ⟨rfl, rfl⟩, ⟨.inl ⟨rfl, rfl⟩, trivial⟩⟩, ⟨.inl ⟨rfl, rfl⟩, ⟨⟨.inl ⟨rfl, rfl⟩, ⟨.inl ⟨rfl, rfl⟩, ⟨.inl ⟨rfl, rfl⟩, ⟨.inl ⟨rfl, rfl⟩, ⟨.inl ⟨rfl, rfl⟩, ⟨.inl ⟨rfl, rfl⟩, ⟨.inr (.inr ⟨rfl, rfl, rfl⟩), ⟨.inl ⟨rfl, rfl⟩, ⟨.inl ⟨rfl, rfl⟩, ⟨.inr (.inr ⟨rfl, rfl, rfl⟩), ⟨.inr (.inr ⟨rfl, rfl, rfl⟩), ⟨.inr (.inr ⟨rfl, rfl, rfl⟩), trivial⟩⟩⟩⟩⟩⟩⟩⟩⟩⟩⟩⟩, trivial⟩⟩⟩ ⟨rfl, trivial⟩),
   hR 9 rfl rfl (q_buildSlice 16 35 (kE false) (k_api_Envelope_ok false) [(saidE (aW.mk 0 true (aM.mk 3 0 1 0 0 (bchB [(saidE awReq)]) ([] : List UInt8) (api_Result.mk 0 0) ([] : List aE) ([] : List aE) ([] : List aC)))), (saidE (aW.mk 1 true (aM.mk 3 0 1 0 0 (bchB [(saidE awReq)]) ([] : List UInt8) (api_Result.mk 0 0) ([] : List aE) ([] : List aE) ([] : List aC)))), (saidE (aW.mk 2 true (aM.mk 3 0 1 0 0 (bchB [(saidE awReq)]) ([] : List UInt8) (api_Result.mk 0 0) ([] : List aE) ([] : List aE) ([] : List aC))))] [⟨0, .tmp 39, .agg [dI Zj3.f_Signer, dU Zj3.f_Body], 0⟩, ⟨1, .tmp 42, .agg [dI Zj4.f_Signer, dU Zj4.f_Body], 2⟩, ⟨2, .tmp 45, .agg [dI Zj5.f_Signer, dU Zj5.f_Body], 4⟩] (cs := [dI Zj3.f_Signer, dU Zj3.f_Body, dI Zj4.f_Signer, dU Zj4.f_Body, dI Zj5.f_Signer, dU Zj5.f_Body]) Tryz.underlying36 iat_35 rfl zero_35 rfl rfl rfl (Nat.le_of_ble_eq_true rfl) (part_cons rfl rfl (Nat.le_of_ble_eq_true rfl) (part_cons rfl rfl (Nat.le_of_ble_eq_true rfl) (part_cons rfl rfl (Nat.le_of_ble_eq_true rfl) part_ok))) (by kernel_rfl) (wk_eq (by kernel_rfl)) (lt_of rfl) trivial)] ?_
 refine tN Zj8 ?_
 refine T.turn (s' := ⟨Zj9, Zja⟩) (fun _ _ hG => Gs.freeze (s := Zj8) 16 (el := elOf (kE false) [(saidE (aW.mk 0 true (aM.mk 3 0 1 0 0 (bchB [(saidE awReq)]) ([] : List UInt8) (api_Result.mk 0 0) ([] : List aE) ([] : List aE) ([] : List aC)))), (saidE (aW.mk 1 true (aM.mk 3 0 1 0 0 (bchB [(saidE awReq)]) ([] : List UInt8) (api_Result.mk 0 0) ([] : List aE) ([] : List aE) ([] : List aC)))), (saidE (aW.mk 2 true (aM.mk 3 0 1 0 0 (bchB [(saidE awReq)]) ([] : List UInt8) (api_Result.mk 0 0) ([] : List aE) ([] : List aE) ([] : List aC))))]) (sz := (kE false).sz) (n := [(saidE (aW.mk 0 true (aM.mk 3 0 1 0 0 (bchB [(saidE awReq)]) ([] : List UInt8) (api_Result.mk 0 0) ([] : List aE) ([] : List aE) ([] : List aC)))), (saidE (aW.mk 1 true (aM.mk 3 0 1 0 0 (bchB [(saidE awReq)]) ([] : List UInt8) (api_Result.mk 0 0) ([] : List aE) ([] : List aE) ([] : List aC)))), (saidE (aW.mk 2 true (aM.mk 3 0 1 0 0 (bchB [(saidE awReq)]) ([] : List UInt8) (api_Result.mk 0 0) ([] : List aE) ([] : List aE) ([] : List aC))))].length) rfl (kk2 (kk4 ⟨(.inr (.inr ⟨rfl, rfl, rfl, (fun h => by cases h), rfl, rfl, Nat.le_of_eq (Nat.zero_add _), fun i j _ => by rw [Nat.zero_add]⟩)), trivial⟩)) ⟨(.inr ⟨by decide, .inl rfl⟩), ⟨(.inr ⟨by decide, .inl rfl⟩), ⟨(.inr ⟨by decide, .inl rfl⟩), ⟨(.inr ⟨by decide, .inl rfl⟩), ⟨(.inr ⟨by decide, .inl rfl⟩), ⟨(.inr ⟨by decide, .inl rfl⟩), ⟨(.inr ⟨by decide, .inl rfl⟩), ⟨(.inr ⟨by decide, .inl rfl⟩), ⟨(.inr ⟨by decide, .inl rfl⟩), ⟨(.inr ⟨by decide, .inl rfl⟩), ⟨(.inr ⟨by decide, .inl rfl⟩), ⟨(.inr ⟨by decide, .inl rfl⟩), ⟨(.inr ⟨by decide, .inl rfl⟩), ⟨(.inr ⟨by decide, .inl rfl⟩), ⟨(.inr ⟨by decide, .inl rfl⟩), ⟨(.inr ⟨by decide, .inl rfl⟩), ⟨(.inl ⟨rfl, rfl⟩), trivial⟩⟩⟩⟩⟩⟩⟩⟩⟩⟩⟩⟩⟩⟩⟩⟩⟩ hG) ?_
 refine T.turn (s' := ⟨Zjb, Zjc⟩) (fun _ _ hG => Gs.i2 [0, 1, 2, 21, 4, 27, 34, 7, 43, 9, 54, 11, 12, 68, 83, 15, 100] (bm 7 127) (t1 := Zjb) (t2 := Zj9) (h1 := Zjc) (h2 := Zja) (congrArg (fun (q1 : List aE) => ([vB false, pv 4 0, pv 7 0, pv 9 0, pv 11 0, pv 12 0, slV false false (kE false) q1] : List AV)) (by rfl)) (cg3 (fun (q1 : List (authn_pair × Bool)) (q2 : Nat) (q3 : List aE) => ([Zie, .live (mpK f_authn_pair kBool q1), .live (.box 75 [dB true, Zih, Zid, .own 15 (kE false).sz 0 q2]), .dead, Zii, .dead, .dead, Zio, .dead, Ziv, .dead, Ziz, .live (.box 46 Zj1), .dead, .dead, .live (arrK 35 (kE false) q3), .dead] : List HS)) (by rfl) (by rfl) (by rfl)) hG) ?_
 refine sD [[], [0], [], [], [3], [2, 3, 4], [0, 1, 2, 3, 4, 5], [0, 1, 2, 3, 4, 5, 6], [0, 1, 2, 3, 4, 5, 6, 7], [0, 1, 2, 3, 4, 5, 6, 7], [], [0, 1, 2, 3, 4, 5, 6, 7, 8, 10], [0, 1, 2, 3, 4, 5, 6, 7, 8, 9, 10, 11]] [hR 4 rfl rfl (q_slice false false (kE false) awV (awV.drop 1) 1 awV.length (lo := some (.const (.int .i64 1), 1)) (hi := none) Tryz.underlying36 iat_35 rfl rfl rfl rfl rfl (by decide) (by omega) (by rw [List.take_length]) (lt_of rfl) ⟨rfl, trivial⟩),
   hR 6 rfl rfl (rCa (cert_Prepared (fOf 1) (cOf 1) (tabM (awL 5)) false (aC.mk (saidE awPre) (awV.drop 1)) ‹_› ‹_› (by decide) (by decide) ‹_›) Tryz.func10 [0, 1] [(.tmp 49, pv 0 0), (.tmp 53, .tv (.agg [Zix, Ziy, .d (dsl false false (kE false) (awV.drop 1))]))] 2 2)] ?_
 refine sD [[], [0], [], [], [3], [2, 3, 4], [0, 1, 2, 3, 4, 5], [0, 1, 2, 3, 4, 5, 6], [0, 1, 2, 3, 4, 5, 6, 7], [0, 1, 2, 3, 4, 5, 6, 7], [], [0, 1, 2, 3, 4, 5, 6, 7, 8, 10], [0, 1, 2, 3, 4, 5, 6, 7, 8, 9, 10, 11]] [hR 4 rfl rfl (q_slice false false (kE false) awV ((awV.take 2).drop 1) 1 2 (lo := some (.const (.int .i64 1), 1)) (hi := some (.const (.int .i64 2), 2)) Tryz.underlying36 iat_35 rfl rfl rfl rfl rfl (by omega) (by decide) rfl (lt_of rfl) ⟨rfl, ⟨rfl, trivial⟩⟩),
   hR 6 rfl rfl (rCa (cert_Prepared (fOf 1) (cOf 1) (tabM (awL 5)) false (aC.mk (saidE awPre) ((awV.take 2).drop 1)) ‹_› ‹_› (by decide) (by decide) ‹_›) Tryz.func10 [0, 1] [(.tmp 59, pv 0 0), (.tmp 63, .tv (.agg [Zix, Ziy, .d (dsl false false (kE false) ((awV.take 2).drop 1))]))] 2 2)] ?_
 refine sD [[], [0], [], [], [3], [3, 4], [], [6], [6, 7], [3, 4, 5, 6, 7, 8], [2, 3, 4, 5, 6, 7, 8, 9], [0, 1, 2, 3, 4, 5, 6, 7, 8, 9, 10], [0, 1, 2, 3, 4, 5, 6, 7, 8, 9, 10, 11], [0, 1, 2, 3, 4, 5, 6, 7, 8, 9, 10, 11, 12], [0, 1, 2, 3, 4, 5, 6, 7, 8, 9, 10, 11, 12], [], [0, 1, 2, 3, 4, 5, 6, 7, 8, 9, 10, 11, 12, 13, 15], [0, 1, 2, 3, 4, 5, 6, 7, 8, 9, 10, 11, 12, 13, 14, 15, 16]] [hR 4 rfl rfl (q_index false false (kE false) awV 1 (k := .i64) (i := 1) Tryz.underlying36 iat_35 rfl rfl (by decide) (lt_of rfl) ⟨rfl, trivial⟩),
   hR 7 rfl rfl (q_index false false (kE false) awV 1 (k := .i64) (i := 1) Tryz.underlying36 iat_35 rfl rfl (by decide) (lt_of rfl) ⟨rfl, trivial⟩),
   hR 9 rfl rfl (q_buildSlice 19 35 (kE false) (k_api_Envelope_ok false) [(awV.getD 1 zE), (awV.getD 1 zE)] [⟨0, .tmp 73, .agg [Zjd, Zje], 0⟩, ⟨1, .tmp 76, .agg [Zjd, Zje], 2⟩] (cs := [Zjd, Zje, Zjd, Zje]) Tryz.underlying36 iat_35 rfl zero_35 rfl rfl rfl (Nat.le_of_ble_eq_true rfl) (part_cons rfl rfl (Nat.le_of_ble_eq_true rfl) (part_cons rfl rfl (Nat.le_of_ble_eq_true rfl) part_ok)) (by kernel_rfl) (wk_eq (by kernel_rfl)) (lt_of rfl) trivial),
   hR 11 rfl rfl (ORule.frz 1 78 19 35 (kE false) [(awV.getD 1 zE), (awV.getD 1 zE)] (av := .tv (.agg [Zix, Ziy, .own 19 (kE false).sz 0 [(awV.getD 1 zE), (awV.getD 1 zE)].length])) (rCa (cert_Prepared (fOf 1) (cOf 1) (tabM (awL 5)) false (aC.mk (saidE awPre) [(awV.getD 1 zE), (awV.getD 1 zE)]) ‹_› ‹_› (by decide) (by decide) ‹_›) Tryz.func10 [0, 1] [(.tmp 69, pv 0 0), (.tmp 78, .tv (.agg [Zix, Ziy, .d (dsl false false (kE false) [(awV.getD 1 zE), (awV.getD 1 zE)])]))] 2 2) rfl (.inr (kk2 ⟨(.inr ⟨rfl, rfl, rfl, (fun h => by cases h), rfl, rfl, Nat.le_of_eq (Nat.zero_add _), fun i j _ => by rw [Nat.zero_add]⟩), trivial⟩)) (by intro h; cases h) rfl rfl)] ?_
 refine sR [hR 5 rfl rfl (rCa (cert_Prepared (fOf 1) (cOf 1) (tabM (awL 5)) false (aC.mk (saidE awPre) awV) ‹_› ‹_› (by decide) (by decide) ‹_›) Tryz.func10 [0, 1] [(.tmp 84, pv 0 0), (.tmp 87, .tv (.agg [Zix, Ziy, .d (dsl false false (kE false) awV)]))] 2 2)] ?_
 refine sR [hR 3 rfl rfl (rCa (cert_Request (fOf 1) (cOf 1) (tabM (awL 5)) false (saidE awReq) ‹_› ‹_› (by decide) (by decide)) Tryz.func23 [0, 1] [(.tmp 93, pv 0 0), (.tmp 94, .tv (.agg Zin))] 2 2)] ?_
 by_cases hq1 : (ceE (checkE (fOf 1) (cOf 1) (tabM (awL 5))) (fOf 1) (aC.mk (saidE awPre) (awV.drop 1)) 3 (2 * (fOf 1))) = 0
 ·by_cases hq2 : (ceV (checkE (fOf 1) (cOf 1) (tabM (awL 5))) (fOf 1) (aC.mk (saidE awPre) (awV.drop 1)) 3 (2 * (fOf 1))).f_Seq = 1
  ·by_cases hq3 : (ceE (checkE (fOf 1) (cOf 1) (tabM (awL 5))) (fOf 1) (aC.mk (saidE awPre) ((awV.take 2).drop 1)) 3 (2 * (fOf 1))) = 32
   ·by_cases hq4 : (ceE (checkE (fOf 1) (cOf 1) (tabM (awL 5))) (fOf 1) (aC.mk (saidE awPre) [(awV.getD 1 zE), (awV.getD 1 zE)]) 3 (2 * (fOf 1))) = 33
    ·by_cases hq5 : (ceE (checkE (fOf 1) (cOf 1) (tabM (awL 5))) (fOf 1) (aC.mk (saidE awPre) awV) 3 (2 * (fOf 1))) = 133
     ·by_cases hq6 : (rqE (checkE (fOf 1) (cOf 1) (tabM (awL 5))) (fOf 1) (saidE awReq)) = 0
      ·by_cases hq7 : (rqV (checkE (fOf 1) (cOf 1) (tabM (awL 5))) (fOf 1) (saidE awReq)).f_Stamp = 1
       ·refine sR [hY 3 (dT hq1),
          hY 4 (dT hq1),
          hY 5 (dT hq1),
          hP 6 (dT hq1),
          hY 8 (dT hq2),
          hY 9 (dT hq2),
          hP 10 (dT hq2),
          hY 12 (dT hq3),
          hY 13 (dT hq3),
          hP 14 (dT hq3),
          hY 16 (dT hq4),
          hY 17 (dT hq4),
          hP 18 (dT hq4),
          hY 20 (dT hq5),
          hY 21 (dT hq5),
          hP 22 (dT hq5),
          hY 24 (dT hq6),
          hY 25 (dT hq6),
          hY 26 (dT hq6),
          hP 27 (dT hq6),
          hY 29 (dT hq7),
          hY 30 (dT hq7),
          hS 31 (oY rfl rfl rfl rfl (lt_of rfl) (dT hq7) (q_strOf () (rqV (checkE (fOf 1) (cOf 1) (tabM (awL 5))) (fOf 1) (saidE awReq)).f_Op (ys := (dU (rqV (checkE (fOf 1) (cOf 1) (tabM (awL 5))) (fOf 1) (saidE awReq)).f_Op)) (rhs := []) Tryz.underlying33 Tryz.underlying5 Tryz.underlying9 (src_sl false false kU8 (rqV (checkE (fOf 1) (cOf 1) (tabM (awL 5))) (fOf 1) (saidE awReq)).f_Op) (lt_of rfl) (by exact trivial))),
          hY 32 (dT hq7),
          hP 33 (dT hq7)] ?_
        refine T.ret ?_
        exact eRt 0 (.one (dB (decide ((rqV (checkE (fOf 1) (cOf 1) (tabM (awL 5))) (fOf 1) (saidE awReq)).f_Op = [111, 112])))) [] (cB (by rfl)) trivial
       exact absurd (by decide +kernel) hq7
      exact absurd (by decide +kernel) hq6
     exact absurd (by decide +kernel) hq5
    exact absurd (by decide +kernel) hq4
   exact absurd (by decide +kernel) hq3
  exact absurd (by decide +kernel) hq2
 exact absurd (by decide +kernel) hq1
end Go.Proofs.YtalapplihdmenaaGreat.Q
namespace Go.Proofs.YtalapplihdmenaaGreat.Q
set_option linter.unusedVariables false
set_option maxRecDepth 100000
def smM (m : aM) : Prop := m.f_Batch.length ≤ 1000000 ∧ m.f_Pres.length ≤ 1000000 ∧ m.f_Certs.length ≤ 1000000 ∧ ∀ c, c ∈ m.f_Certs → c.f_Votes.length ≤ 1000000
theorem req_small : [reqE].length ≤ 4 ∧ ∀ e, e ∈ [reqE] → i64R e.f_Signer ∧ e.f_Body.length ≤ 30000 := ⟨by decide, fun e he => by
  rw [List.mem_singleton] at he
  subst he
  exact ⟨by unfold i64R; decide, few_encB few_req⟩⟩
theorem ce_msg {C : aE → Int} {f kind need : Int} {c : quaestorlaw13_Case} : (ceE C f (madeC f c) kind need = 0 ∧ ceV C f (madeC f c) kind need = preM c) ∨ (ceE C f (madeC f c) kind need ≠ 0 ∧ ceV C f (madeC f c) kind need = zM) := by
  by_cases h : ceE C f (madeC f c) kind need = 0
  · have hp : ¬ ppE C f (madeC f c).f_Pre ≠ 0 := fun q => by
      have := (ce_p (C := C) (f := f) (c := madeC f c) (kind := kind) (need := need) q).2
      rw [this] at h
      exact q h
    refine .inl ⟨h, ?_⟩
    have e : ceV C f (madeC f c) kind need = decV (madeC f c).f_Pre.f_Body := if_pos h
    rw [e, ← pp_val hp]
    exact bin_pp (v := c.f_View) (n := c.f_Seq) req_small hp
  · exact .inr ⟨h, if_neg h⟩
theorem ce_sm {C : aE → Int} {f kind need : Int} {c : quaestorlaw13_Case} : smM (ceV C f (madeC f c) kind need) := by
  rcases ce_msg (C := C) (f := f) (kind := kind) (need := need) (c := c) with ⟨_, e⟩ | ⟨_, e⟩ <;> rw [e]
  · exact ⟨(by show ([reqE] : List aE).length ≤ _; decide), Nat.zero_le _, Nat.zero_le _, fun c h => by cases h⟩
  · exact ⟨Nat.zero_le _, Nat.zero_le _, Nat.zero_le _, fun c h => by cases h⟩
end Go.Proofs.YtalapplihdmenaaGreat.Q
namespace Go.Proofs.YtalapplihdmenaaGreat.Q
open Go Go.RowKit
set_option linter.unusedVariables false
set_option linter.unusedSimpArgs false
set_option maxRecDepth 100000
set_option maxHeartbeats 4000000
section
variable (te : Bool) (e : aE) (k : Int)
end
end Go.Proofs.YtalapplihdmenaaGreat.Q
