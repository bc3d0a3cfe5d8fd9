import Derived.Test.YtalapplihdmenaaGreatC13n31
namespace Go.Proofs.YtalapplihdmenaaGreat.Q
open Go Go.RowKit
set_option linter.unusedVariables false
set_option linter.unusedSimpArgs false
set_option maxRecDepth 100000
set_option maxHeartbeats 4000000
abbrev Zj0 : AV := .tv (.agg [.ptr 0 0, .ptr 2 0])
abbrev Zj1 : SV := .d (.val (.slice none 0 0))
abbrev Zj2 : List AV := [vB false, pv 4 0, pv 7 0]
abbrev Zj3 : SV := dI (cOf 1)
abbrev Zj4 : HS := .live (.box 98 [dI (3 * (fOf 1) + 1), Zj3, .mref 1])
abbrev Zj5 := (aW.mk 1000 true (aM.mk 1 0 0 1000 1 [] [(111 : UInt8), (112 : UInt8)] (api_Result.mk 0 0) ([] : List aE) ([] : List aE) ([] : List aC)))
abbrev Zj6 := (saidL (fOf 1) (cOf 1) ([] : List aE) Zj5)
abbrev Zj7 : SV := dI (fOf 1)
abbrev Zj8 : HS := .live (.box 31 [.ptr 0 0, .ptr 2 0])
abbrev Zj9 : List HS := [Zj4, .live (mpK f_authn_pair kBool (tabM Zj6)), .live (.box 75 [dB true, Zj7, Zj3, .own 6 (kE false).sz 0 Zj6.length]), .dead, Zj8, .dead, .live (arrK 35 (kE false) Zj6), .live (.box 35 [dI (saidE Zj5).f_Signer, dU (saidE Zj5).f_Body])]
abbrev Zja : HS := .live (mpK f_authn_pair kBool (tabM (awL 1)))
abbrev Zjb : HS := .live (.box 75 [dB true, Zj7, Zj3, .own 6 (kE false).sz 0 (awL 1).length])
abbrev Zjc : HS := .live (arrK 35 (kE false) (awL 1))
abbrev Zjd : List SV := [dI (saidE awReq).f_Signer, dU (saidE awReq).f_Body]
abbrev Zje : HS := .live (.box 35 Zjd)
abbrev Zjf : List HS := [Zj4, Zja, Zjb, .dead, Zj8, .dead, Zjc, Zje]
abbrev Zjg : St := ⟨[vB false, pv 4 0, pv 7 0, pv 9 0], [Zj4, Zja, Zjb, .dead, Zj8, .dead, Zjc, Zje, .live (arrK 35 (kE false) [(saidE awReq)]), .live (.box 46 [dI 2, dI 0, dI 1, dI 0, dI 0, dS [], Zj1, dI 0, dI 0, .own 8 (kE false).sz 0 [(saidE awReq)].length, Zj1, Zj1])]⟩
abbrev Zjh : List SV := [dI 2, dI 0, dI 1, dI 0, dI 0, dS (bchB [(saidE awReq)]), Zj1, dI 0, dI 0, .d (dsl false false (kE false) [(saidE awReq)]), Zj1, Zj1]
abbrev Zji : List AV := [vB false, pv 4 0, pv 7 0, pv 9 0, pv 11 0]
abbrev Zjj := (aW.mk 0 true (aM.mk 2 0 1 0 0 (bchB [(saidE awReq)]) ([] : List UInt8) (api_Result.mk 0 0) [(saidE awReq)] ([] : List aE) ([] : List aC)))
abbrev Zjk := (saidL (fOf 1) (cOf 1) (awL 1) Zjj)
abbrev Zjl : HS := .live (.box 46 Zjh)
abbrev Zjm : List HS := [Zj4, .live (mpK f_authn_pair kBool (tabM Zjk)), .live (.box 75 [dB true, Zj7, Zj3, .own 10 (kE false).sz 0 Zjk.length]), .dead, Zj8, .dead, .dead, Zje, .dead, Zjl, .live (arrK 35 (kE false) Zjk), .live (.box 35 [dI (saidE Zjj).f_Signer, dU (saidE Zjj).f_Body])]
abbrev Zjn : SV := dI (saidE awPre).f_Signer
abbrev Zjo : SV := dU (saidE awPre).f_Body
abbrev Zjp : HS := .live (.box 35 [Zjn, Zjo])
abbrev Zjq : List HS := [Zj4, .live (mpK f_authn_pair kBool (tabM (awL 2))), .live (.box 75 [dB true, Zj7, Zj3, .own 10 (kE false).sz 0 (awL 2).length]), .dead, Zj8, .dead, .dead, Zje, .dead, Zjl, .live (arrK 35 (kE false) (awL 2)), Zjp]
abbrev Zjr : List SV := [dI 3, dI 0, dI 1, dI 0, dI 0, dS (bchB [(saidE awReq)]), Zj1, dI 0, dI 0, Zj1, Zj1, Zj1]
abbrev Zjs := (aM.mk 3 0 1 0 0 (bchB [(saidE awReq)]) ([] : List UInt8) (api_Result.mk 0 0) ([] : List aE) ([] : List aE) ([] : List aC))
abbrev Zjt := (saidE (aW.mk 0 true Zjs))
abbrev Zju := (saidE (aW.mk 1 true Zjs))
abbrev Zjv := (saidE (aW.mk 2 true Zjs))
abbrev Zjw := (saidL (fOf 1) (cOf 1) (saidL (fOf 1) (cOf 1) (saidL (fOf 1) (cOf 1) (awL 2) (aW.mk 0 true Zjs)) (aW.mk 1 true Zjs)) (aW.mk 2 true Zjs))
abbrev Zjx : HS := .live (.box 75 [dB true, Zj7, Zj3, .own 15 (kE false).sz 0 Zjw.length])
abbrev Zjy : St := ⟨[vB false, pv 4 0, pv 7 0, pv 9 0, pv 11 0, pv 12 0, ownV 16 (kE false) 0 [Zjt, Zju, Zjv].length], [Zj4, .live (mpK f_authn_pair kBool (tabM Zjw)), Zjx, .dead, Zj8, .dead, .dead, Zje, .dead, Zjl, .dead, Zjp, .live (.box 46 Zjr), .dead, .dead, .live (arrK 35 (kE false) Zjw), .live (arrK 35 (kE false) [Zjt, Zju, Zjv])]⟩
abbrev Zjz : List AV := [vB false, pv 4 0, pv 7 0, pv 9 0, pv 11 0, pv 12 0, slV false false (kE false) [Zjt, Zju, Zjv]]
abbrev Zk0 : List HS := [Zj4, .live (mpK f_authn_pair kBool (tabM Zjw)), Zjx, .dead, Zj8, .dead, .dead, Zje, .dead, Zjl, .dead, Zjp, .live (.box 46 Zjr), .dead, .dead, .live (arrK 35 (kE false) Zjw), .dead]
abbrev Zk1 : List AV := [vB false, pv 4 0, pv 7 0, pv 9 0, pv 11 0, pv 12 0, slV false false (kE false) awV]
abbrev Zk2 : List HS := [Zj4, .live (mpK f_authn_pair kBool (tabM (awL 5))), .live (.box 75 [dB true, Zj7, Zj3, .own 15 (kE false).sz 0 (awL 5).length]), .dead, Zj8, .dead, .dead, Zje, .dead, Zjl, .dead, Zjp, .live (.box 46 Zjr), .dead, .dead, .live (arrK 35 (kE false) (awL 5)), .dead]
abbrev Zk3 : SV := dI (awV.getD 1 zE).f_Signer
abbrev Zk4 : SV := dU (awV.getD 1 zE).f_Body
theorem law_awake : Holds Tryz.prog 7 ⟨[], [], vB true, []⟩ := by
 refine Holds.of Tryz.func7 rfl (N := 132) Tryz.ntmps7 rfl fun w0 B0 S0 U0 => ?_
 show T _ (mkBase 132 0 w0 S0 U0 B0) ⟨[], []⟩ _ _
 have hf1 := fOf_ok 1
 have hu1 := cOf_ok 1
 obtain ⟨ok1, ok2, ok3, ok4, ok5, ok6, ok7⟩ := aw_ok
 refine sR [] ?_
 refine sR [hR 1 rfl rfl (rCa (law_begun (quaestorlaw03_Size.mk 1 1) ) Tryz.func8 [0, 1, 2, 3] [(.tmp 17, .tv (.agg [dI 1, dI 1]))] 0 4)] ?_
 refine sR [hR 1 rfl rfl (q_buildSlice 5 5 kU8 kU8_ok [(111 : UInt8), (112 : UInt8)] [⟨0, .const (.int .u8 111), .one (.d (.val (.int .u8 111))), 0⟩, ⟨1, .const (.int .u8 112), .one (.d (.val (.int .u8 112))), 1⟩] (cs := [.d (.val (.int .u8 111)), .d (.val (.int .u8 112))]) Tryz.underlying33 iat_5 rfl zero_5 rfl rfl rfl (Nat.le_of_ble_eq_true rfl) (part_cons rfl rfl (Nat.le_of_ble_eq_true rfl) (part_cons rfl rfl (Nat.le_of_ble_eq_true rfl) part_ok)) (by kernel_rfl) (wk_eq (by kernel_rfl)) (lt_of rfl) ⟨rfl, ⟨rfl, trivial⟩⟩),
   hR 2 rfl rfl (r_convLit 5 5 kU8 [(111 : UInt8), (112 : UInt8)] Tryz.underlying33 Tryz.underlying5 (by decide) (lt_of rfl) trivial),
   hR 4 rfl rfl (rCn (law_sign (fOf 1) (cOf 1) ([] : List (authn_pair × Bool)) ([] : List aE) 1000 false (aM.mk 1 0 0 1000 1 [] [(111 : UInt8), (112 : UInt8)] (api_Result.mk 0 0) ([] : List aE) ([] : List aE) ([] : List aC)) ‹_› ‹_› (by rfl) (by (simp [maxLen, -List.getD_eq_getElem?_getD] <;> omega)) (by omega) ‹_›) Tryz.func16 [0, 1, 2, 3, 6] [(.tmp 19, Zj0), (.const (.int .i64 1000), vI 1000), (.tmp 22, .tv (.agg [dI 1, dI 0, dI 0, dI 1000, dI 1, dS [], .d (dsl false true kU8 [(111 : UInt8), (112 : UInt8)]), dI 0, dI 0, Zj1, Zj1, Zj1]))] 4 5 ⟨⟨.inl ⟨rfl, rfl⟩, ⟨.inl ⟨rfl, rfl⟩, trivial⟩⟩, ⟨.inl ⟨rfl, rfl⟩, ⟨⟨.inl ⟨rfl, rfl⟩, ⟨.inl ⟨rfl, rfl⟩, ⟨.inl ⟨rfl, rfl⟩, ⟨.inl ⟨rfl, rfl⟩, ⟨.inl ⟨rfl, rfl⟩, ⟨.inl ⟨rfl, rfl⟩, ⟨.inr (.inr ⟨rfl, (fun h => by cases h), rfl, rfl, rfl⟩), ⟨.inl ⟨rfl, rfl⟩, ⟨.inl ⟨rfl, rfl⟩, ⟨.inr (.inr ⟨rfl, rfl, rfl⟩), ⟨.inr (.inr ⟨rfl, rfl, rfl⟩), ⟨.inr (.inr ⟨rfl, rfl, rfl⟩), trivial⟩⟩⟩⟩⟩⟩⟩⟩⟩⟩⟩⟩, trivial⟩⟩⟩ ⟨rfl, trivial⟩)] ?_
 refine tN ⟨Zj2, Zj9⟩ ?_
 refine T.turn (s' := ⟨Zj2, Zjf⟩) (fun _ _ hG => Gs.i2 [0, 1, 2, 12, 4, 18, 6, 7] [true, true, true] (h1 := Zjf) (h2 := Zj9) (t1 := Zj2) rfl (cg5 (fun (q1 : List (authn_pair × Bool)) (q2 : Nat) (q3 : List aE) (q4 : Int) (q5 : List UInt8) => ([Zj4, .live (mpK f_authn_pair kBool q1), .live (.box 75 [dB true, Zj7, Zj3, .own 6 (kE false).sz 0 q2]), .dead, Zj8, .dead, .live (arrK 35 (kE false) q3), .live (.box 35 [dI q4, dU q5])] : List HS)) (by rfl) (by rfl) (by rfl) (by rfl) (by rfl)) hG) ?_
 refine sR [hR 1 rfl rfl (q_buildSlice 8 35 (kE false) (k_api_Envelope_ok false) [(saidE awReq)] [⟨0, .tmp 24, .agg Zjd, 0⟩] (cs := [dI (saidE awReq).f_Signer, dU (saidE awReq).f_Body]) Tryz.underlying36 iat_35 rfl zero_35 rfl rfl rfl (Nat.le_of_ble_eq_true rfl) (part_cons rfl rfl (Nat.le_of_ble_eq_true rfl) part_ok) (by kernel_rfl) (wk_eq (by kernel_rfl)) (lt_of rfl) trivial)] ?_
 refine tN Zjg ?_
 refine T.turn (s' := ⟨[vB false, pv 4 0, pv 7 0, pv 9 0], [Zj4, Zja, Zjb, .dead, Zj8, .dead, Zjc, Zje, .dead, .live (.box 46 [dI 2, dI 0, dI 1, dI 0, dI 0, dS [], Zj1, dI 0, dI 0, .d (dsl false false (kE false) [(saidE awReq)]), Zj1, Zj1])]⟩) (fun _ _ hG => Gs.freeze (s := Zjg) 8 (el := elOf (kE false) [(saidE awReq)]) (sz := (kE false).sz) (n := [(saidE awReq)].length) rfl (kk4 trivial) ⟨(.inr ⟨by decide, .inl rfl⟩), ⟨(.inr ⟨by decide, .inl rfl⟩), ⟨(.inr ⟨by decide, .inl rfl⟩), ⟨(.inr ⟨by decide, .inl rfl⟩), ⟨(.inr ⟨by decide, .inl rfl⟩), ⟨(.inr ⟨by decide, .inl rfl⟩), ⟨(.inr ⟨by decide, .inl rfl⟩), ⟨(.inr ⟨by decide, .inl rfl⟩), ⟨(.inl ⟨rfl, rfl⟩), ⟨(.inr ⟨by decide, .inr ⟨rfl, ⟨.inl rfl, (kk8 ⟨(.inr ⟨rfl, rfl, rfl, (fun h => by cases h), rfl, rfl, Nat.le_of_eq (Nat.zero_add _), fun i j _ => by rw [Nat.zero_add]⟩), (kk2 trivial)⟩)⟩⟩⟩), trivial⟩⟩⟩⟩⟩⟩⟩⟩⟩⟩ hG) ?_
 refine sR [hR 2 rfl rfl (rCa (ref12_Batch false false false [(saidE awReq)] (by decide)) Tryz.func15 [] [(.tmp 28, slV false false (kE false) [(saidE awReq)])] 0 0)] ?_
 refine sR [hR 2 rfl rfl (rCn (law_sign (fOf 1) (cOf 1) (tabM (awL 1)) (awL 1) 0 false (aM.mk 2 0 1 0 0 (bchB [(saidE awReq)]) ([] : List UInt8) (api_Result.mk 0 0) [(saidE awReq)] ([] : List aE) ([] : List aC)) ‹_› ‹_› (by rfl) (by decide) (by omega) ‹_›) Tryz.func16 [0, 1, 2, 6, 10] [(.tmp 31, Zj0), (.const (.int .i64 0), vI 0), (.tmp 32, .tv (.agg Zjh))] 4 5 ⟨⟨.inl ⟨rfl, rfl⟩, ⟨.inl ⟨rfl, rfl⟩, trivial⟩⟩, ⟨.inl ⟨rfl, rfl⟩, ⟨⟨.inl ⟨rfl, rfl⟩, ⟨.inl ⟨rfl, rfl⟩, ⟨.inl ⟨rfl, rfl⟩, ⟨.inl ⟨rfl, rfl⟩, ⟨.inl ⟨rfl, rfl⟩, ⟨.inl ⟨rfl, rfl⟩, ⟨.inr (.inr ⟨rfl, rfl, rfl⟩), ⟨.inl ⟨rfl, rfl⟩, ⟨.inl ⟨rfl, rfl⟩, ⟨.inl ⟨rfl, rfl⟩, ⟨.inr (.inr ⟨rfl, rfl, rfl⟩), ⟨.inr (.inr ⟨rfl, rfl, rfl⟩), trivial⟩⟩⟩⟩⟩⟩⟩⟩⟩⟩⟩⟩, trivial⟩⟩⟩ ⟨rfl, trivial⟩)] ?_
 refine tN ⟨Zji, Zjm⟩ ?_
 refine T.turn (s' := ⟨Zji, Zjq⟩) (fun _ _ hG => Gs.i2 [0, 1, 2, 16, 4, 22, 29, 7, 38, 9, 10, 11] (bm 5 31) (h1 := Zjq) (h2 := Zjm) (t1 := Zji) rfl (cg5 (fun (q1 : List (authn_pair × Bool)) (q2 : Nat) (q3 : List aE) (q4 : Int) (q5 : List UInt8) => ([Zj4, .live (mpK f_authn_pair kBool q1), .live (.box 75 [dB true, Zj7, Zj3, .own 10 (kE false).sz 0 q2]), .dead, Zj8, .dead, .dead, Zje, .dead, Zjl, .live (arrK 35 (kE false) q3), .live (.box 35 [dI q4, dU q5])] : List HS)) (by rfl) (by rfl) (by rfl) (by rfl) (by rfl)) hG) ?_
 refine sR [] ?_
 refine sD [[], [], [0, 1], [], [], [0, 1, 2, 3, 4], [], [], [0, 1, 2, 3, 4, 5, 6, 7], [0, 1, 2, 3, 4, 5, 6, 7, 8], [0, 1, 2, 3, 4, 5, 6, 7, 8, 9]] [hR 2 rfl rfl (rCn (law_sign (fOf 1) (cOf 1) (tabM (awL 2)) (awL 2) 0 false (aM.mk 3 0 1 0 0 (bchB [(saidE awReq)]) ([] : List UInt8) (api_Result.mk 0 0) ([] : List aE) ([] : List aE) ([] : List aC)) ‹_› ‹_› (by rfl) (by decide) (by omega) ‹_›) Tryz.func16 [0, 1, 2, 10, 13] [(.tmp 37, Zj0), (.const (.int .i64 0), vI 0), (.tmp 38, .tv (.agg Zjr))] 4 5 ⟨⟨.inl ⟨rfl, rfl⟩, ⟨.inl ⟨rfl, rfl⟩, trivial⟩⟩, ⟨.inl ⟨rfl, rfl⟩, ⟨⟨.inl ⟨rfl, rfl⟩, ⟨.inl ⟨rfl, rfl⟩, ⟨.inl ⟨rfl, rfl⟩, ⟨.inl ⟨rfl, rfl⟩, ⟨.inl ⟨rfl, rfl⟩, ⟨.inl ⟨rfl, rfl⟩, ⟨.inr (.inr ⟨rfl, rfl, rfl⟩), ⟨.inl ⟨rfl, rfl⟩, ⟨.inl ⟨rfl, rfl⟩, ⟨.inr (.inr ⟨rfl, rfl, rfl⟩), ⟨.inr (.inr ⟨rfl, rfl, rfl⟩), ⟨.inr (.inr ⟨rfl, rfl, rfl⟩), trivial⟩⟩⟩⟩⟩⟩⟩⟩⟩⟩⟩⟩, trivial⟩⟩⟩ ⟨rfl, trivial⟩),
   hR 5 rfl rfl (rCn (law_sign (fOf 1) (cOf 1) (tabM (saidL (fOf 1) (cOf 1) (awL 2) (aW.mk 0 true (aM.mk 3 0 1 0 0 (bchB [(saidE awReq)]) ([] : List UInt8) (api_Result.mk 0 0) ([] : List aE) ([] : List aE) ([] : List aC))))) (saidL (fOf 1) (cOf 1) (awL 2) (aW.mk 0 true (aM.mk 3 0 1 0 0 (bchB [(saidE awReq)]) ([] : List UInt8) (api_Result.mk 0 0) ([] : List aE) ([] : List aE) ([] : List aC)))) 1 false (aM.mk 3 0 1 0 0 (bchB [(saidE awReq)]) ([] : List UInt8) (api_Result.mk 0 0) ([] : List aE) ([] : List aE) ([] : List aC)) ‹_› ‹_› (by rfl) (by decide) (by omega) ‹_›) Tryz.func16 [0, 1, 2, 13, 14] [(.tmp 40, Zj0), (.const (.int .i64 1), vI 1), (.tmp 41, .tv (.agg Zjr))] 4 5 ⟨⟨.inl ⟨rfl, rfl⟩, ⟨.inl ⟨rfl, rfl⟩, trivial⟩⟩, ⟨.inl ⟨rfl, rfl⟩, ⟨⟨.inl ⟨rfl, rfl⟩, ⟨.inl ⟨rfl, rfl⟩, ⟨.inl ⟨rfl, rfl⟩, ⟨.inl ⟨rfl, rfl⟩, ⟨.inl ⟨rfl, rfl⟩, ⟨.inl ⟨rfl, rfl⟩, ⟨.inr (.inr ⟨rfl, rfl, rfl⟩), ⟨.inl ⟨rfl, rfl⟩, ⟨.inl ⟨rfl, rfl⟩, ⟨.inr (.inr ⟨rfl, rfl, rfl⟩), ⟨.inr (.inr ⟨rfl, rfl, rfl⟩), ⟨.inr (.inr ⟨rfl, rfl, rfl⟩), trivial⟩⟩⟩⟩⟩⟩⟩⟩⟩⟩⟩⟩, trivial⟩⟩⟩ ⟨rfl, trivial⟩),
   hR 8 rfl rfl (rCn (law_sign (fOf 1) (cOf 1) (tabM (saidL (fOf 1) (cOf 1) (saidL (fOf 1) (cOf 1) (awL 2) (aW.mk 0 true (aM.mk 3 0 1 0 0 (bchB [(saidE awReq)]) ([] : List UInt8) (api_Result.mk 0 0) ([] : List aE) ([] : List aE) ([] : List aC)))) (aW.mk 1 true (aM.mk 3 0 1 0 0 (bchB [(saidE awReq)]) ([] : List UInt8) (api_Result.mk 0 0) ([] : List aE) ([] : List aE) ([] : List aC))))) (saidL (fOf 1) (cOf 1) (saidL (fOf 1) (cOf 1) (awL 2) (aW.mk 0 true (aM.mk 3 0 1 0 0 (bchB [(saidE awReq)]) ([] : List UInt8) (api_Result.mk 0 0) ([] : List aE) ([] : List aE) ([] : List aC)))) (aW.mk 1 true (aM.mk 3 0 1 0 0 (bchB [(saidE awReq)]) ([] : List UInt8) (api_Result.mk 0 0) ([] : List aE) ([] : List aE) ([] : List aC)))) 2 false (aM.mk 3 0 1 0 0 (bchB [(saidE awReq)]) ([] : List UInt8) (api_Result.mk 0 0) ([] : List aE) ([] : List aE) ([] : List aC)) ‹_› ‹_› (by rfl) (by decide) (by omega) ‹_›) Tryz.func16 [0, 1, 2, 14, 15] [(.tmp 43, Zj0), (.const (.int .i64 2), vI 2), (.tmp 44, .tv (.agg Zjr))] 4 5 ⟨⟨.inl ⟨rfl, rfl⟩, ⟨.inl ⟨rfl, rfl⟩, trivial⟩⟩, ⟨.inl ⟨rfl, rfl⟩, ⟨⟨.inl ⟨rfl, rfl⟩, ⟨.inl ⟨rfl, rfl⟩, ⟨.inl ⟨rfl, rfl⟩, ⟨.inl ⟨rfl, rfl⟩, ⟨.inl ⟨rfl, rfl⟩, ⟨.inl ⟨rfl, rfl⟩, ⟨.inr (.inr ⟨rfl, rfl, rfl⟩), ⟨.inl ⟨rfl, rfl⟩, ⟨.inl ⟨rfl, rfl⟩, ⟨.inr (.inr ⟨rfl, rfl, rfl⟩), ⟨.inr (.inr ⟨rfl, rfl, rfl⟩), ⟨.inr (.inr ⟨rfl, rfl, rfl⟩), trivial⟩⟩⟩⟩⟩⟩⟩⟩⟩⟩⟩⟩, trivial⟩⟩⟩ ⟨rfl, trivial⟩),
   hR 9 rfl rfl (q_buildSlice 16 35 (kE false) (k_api_Envelope_ok false) [(saidE (aW.mk 0 true (aM.mk 3 0 1 0 0 (bchB [(saidE awReq)]) ([] : List UInt8) (api_Result.mk 0 0) ([] : List aE) ([] : List aE) ([] : List aC)))), (saidE (aW.mk 1 true (aM.mk 3 0 1 0 0 (bchB [(saidE awReq)]) ([] : List UInt8) (api_Result.mk 0 0) ([] : List aE) ([] : List aE) ([] : List aC)))), (saidE (aW.mk 2 true (aM.mk 3 0 1 0 0 (bchB [(saidE awReq)]) ([] : List UInt8) (api_Result.mk 0 0) ([] : List aE) ([] : List aE) ([] : List aC))))] [⟨0, .tmp 39, .agg [dI Zjt.f_Signer, dU Zjt.f_Body], 0⟩, ⟨1, .tmp 42, .agg [dI Zju.f_Signer, dU Zju.f_Body], 2⟩, ⟨2, .tmp 45, .agg [dI Zjv.f_Signer, dU Zjv.f_Body], 4⟩] (cs := [dI Zjt.f_Signer, dU Zjt.f_Body, dI Zju.f_Signer, dU Zju.f_Body, dI Zjv.f_Signer, dU Zjv.f_Body]) Tryz.underlying36 iat_35 rfl zero_35 rfl rfl rfl (Nat.le_of_ble_eq_true rfl) (part_cons rfl rfl (Nat.le_of_ble_eq_true rfl) (part_cons rfl rfl (Nat.le_of_ble_eq_true rfl) (part_cons rfl rfl (Nat.le_of_ble_eq_true rfl) part_ok))) (by kernel_rfl) (wk_eq (by kernel_rfl)) (lt_of rfl) trivial)] ?_
 refine tN Zjy ?_
 refine T.turn (s' := ⟨Zjz, Zk0⟩) (fun _ _ hG => Gs.freeze (s := Zjy) 16 (el := elOf (kE false) [(saidE (aW.mk 0 true (aM.mk 3 0 1 0 0 (bchB [(saidE awReq)]) ([] : List UInt8) (api_Result.mk 0 0) ([] : List aE) ([] : List aE) ([] : List aC)))), (saidE (aW.mk 1 true (aM.mk 3 0 1 0 0 (bchB [(saidE awReq)]) ([] : List UInt8) (api_Result.mk 0 0) ([] : List aE) ([] : List aE) ([] : List aC)))), (saidE (aW.mk 2 true (aM.mk 3 0 1 0 0 (bchB [(saidE awReq)]) ([] : List UInt8) (api_Result.mk 0 0) ([] : List aE) ([] : List aE) ([] : List aC))))]) (sz := (kE false).sz) (n := [(saidE (aW.mk 0 true (aM.mk 3 0 1 0 0 (bchB [(saidE awReq)]) ([] : List UInt8) (api_Result.mk 0 0) ([] : List aE) ([] : List aE) ([] : List aC)))), (saidE (aW.mk 1 true (aM.mk 3 0 1 0 0 (bchB [(saidE awReq)]) ([] : List UInt8) (api_Result.mk 0 0) ([] : List aE) ([] : List aE) ([] : List aC)))), (saidE (aW.mk 2 true (aM.mk 3 0 1 0 0 (bchB [(saidE awReq)]) ([] : List UInt8) (api_Result.mk 0 0) ([] : List aE) ([] : List aE) ([] : List aC))))].length) rfl (kk2 (kk4 ⟨(.inr (.inr ⟨rfl, rfl, rfl, (fun h => by cases h), rfl, rfl, Nat.le_of_eq (Nat.zero_add _), fun i j _ => by rw [Nat.zero_add]⟩)), trivial⟩)) ⟨(.inr ⟨by decide, .inl rfl⟩), ⟨(.inr ⟨by decide, .inl rfl⟩), ⟨(.inr ⟨by decide, .inl rfl⟩), ⟨(.inr ⟨by decide, .inl rfl⟩), ⟨(.inr ⟨by decide, .inl rfl⟩), ⟨(.inr ⟨by decide, .inl rfl⟩), ⟨(.inr ⟨by decide, .inl rfl⟩), ⟨(.inr ⟨by decide, .inl rfl⟩), ⟨(.inr ⟨by decide, .inl rfl⟩), ⟨(.inr ⟨by decide, .inl rfl⟩), ⟨(.inr ⟨by decide, .inl rfl⟩), ⟨(.inr ⟨by decide, .inl rfl⟩), ⟨(.inr ⟨by decide, .inl rfl⟩), ⟨(.inr ⟨by decide, .inl rfl⟩), ⟨(.inr ⟨by decide, .inl rfl⟩), ⟨(.inr ⟨by decide, .inl rfl⟩), ⟨(.inl ⟨rfl, rfl⟩), trivial⟩⟩⟩⟩⟩⟩⟩⟩⟩⟩⟩⟩⟩⟩⟩⟩⟩ hG) ?_
 refine T.turn (s' := ⟨Zk1, Zk2⟩) (fun _ _ hG => Gs.i2 [0, 1, 2, 21, 4, 27, 34, 7, 43, 9, 54, 11, 12, 68, 83, 15, 100] (bm 7 127) (t1 := Zk1) (t2 := Zjz) (h1 := Zk2) (h2 := Zk0) (congrArg (fun (q1 : List aE) => ([vB false, pv 4 0, pv 7 0, pv 9 0, pv 11 0, pv 12 0, slV false false (kE false) q1] : List AV)) (by rfl)) (cg3 (fun (q1 : List (authn_pair × Bool)) (q2 : Nat) (q3 : List aE) => ([Zj4, .live (mpK f_authn_pair kBool q1), .live (.box 75 [dB true, Zj7, Zj3, .own 15 (kE false).sz 0 q2]), .dead, Zj8, .dead, .dead, Zje, .dead, Zjl, .dead, Zjp, .live (.box 46 Zjr), .dead, .dead, .live (arrK 35 (kE false) q3), .dead] : List HS)) (by rfl) (by rfl) (by rfl)) hG) ?_
 refine sD [[], [0], [], [], [3], [2, 3, 4], [0, 1, 2, 3, 4, 5], [0, 1, 2, 3, 4, 5, 6], [0, 1, 2, 3, 4, 5, 6, 7], [0, 1, 2, 3, 4, 5, 6, 7], [], [0, 1, 2, 3, 4, 5, 6, 7, 8, 10], [0, 1, 2, 3, 4, 5, 6, 7, 8, 9, 10, 11]] [hR 4 rfl rfl (q_slice false false (kE false) awV (awV.drop 1) 1 awV.length (lo := some (.const (.int .i64 1), 1)) (hi := none) Tryz.underlying36 iat_35 rfl rfl rfl rfl rfl (by decide) (by omega) (by rw [List.take_length]) (lt_of rfl) ⟨rfl, trivial⟩),
   hR 6 rfl rfl (rCa (cert_Prepared (fOf 1) (cOf 1) (tabM (awL 5)) false (aC.mk (saidE awPre) (awV.drop 1)) ‹_› ‹_› (by decide) (by decide) ‹_›) Tryz.func10 [0, 1] [(.tmp 49, pv 0 0), (.tmp 53, .tv (.agg [Zjn, Zjo, .d (dsl false false (kE false) (awV.drop 1))]))] 2 2)] ?_
 refine sD [[], [0], [], [], [3], [2, 3, 4], [0, 1, 2, 3, 4, 5], [0, 1, 2, 3, 4, 5, 6], [0, 1, 2, 3, 4, 5, 6, 7], [0, 1, 2, 3, 4, 5, 6, 7], [], [0, 1, 2, 3, 4, 5, 6, 7, 8, 10], [0, 1, 2, 3, 4, 5, 6, 7, 8, 9, 10, 11]] [hR 4 rfl rfl (q_slice false false (kE false) awV ((awV.take 2).drop 1) 1 2 (lo := some (.const (.int .i64 1), 1)) (hi := some (.const (.int .i64 2), 2)) Tryz.underlying36 iat_35 rfl rfl rfl rfl rfl (by omega) (by decide) rfl (lt_of rfl) ⟨rfl, ⟨rfl, trivial⟩⟩),
   hR 6 rfl rfl (rCa (cert_Prepared (fOf 1) (cOf 1) (tabM (awL 5)) false (aC.mk (saidE awPre) ((awV.take 2).drop 1)) ‹_› ‹_› (by decide) (by decide) ‹_›) Tryz.func10 [0, 1] [(.tmp 59, pv 0 0), (.tmp 63, .tv (.agg [Zjn, Zjo, .d (dsl false false (kE false) ((awV.take 2).drop 1))]))] 2 2)] ?_
 refine sD [[], [0], [], [], [3], [3, 4], [], [6], [6, 7], [3, 4, 5, 6, 7, 8], [2, 3, 4, 5, 6, 7, 8, 9], [0, 1, 2, 3, 4, 5, 6, 7, 8, 9, 10], [0, 1, 2, 3, 4, 5, 6, 7, 8, 9, 10, 11], [0, 1, 2, 3, 4, 5, 6, 7, 8, 9, 10, 11, 12], [0, 1, 2, 3, 4, 5, 6, 7, 8, 9, 10, 11, 12], [], [0, 1, 2, 3, 4, 5, 6, 7, 8, 9, 10, 11, 12, 13, 15], [0, 1, 2, 3, 4, 5, 6, 7, 8, 9, 10, 11, 12, 13, 14, 15, 16]] [hR 4 rfl rfl (q_index false false (kE false) awV 1 (k := .i64) (i := 1) Tryz.underlying36 iat_35 rfl rfl (by decide) (lt_of rfl) ⟨rfl, trivial⟩),
   hR 7 rfl rfl (q_index false false (kE false) awV 1 (k := .i64) (i := 1) Tryz.underlying36 iat_35 rfl rfl (by decide) (lt_of rfl) ⟨rfl, trivial⟩),
   hR 9 rfl rfl (q_buildSlice 19 35 (kE false) (k_api_Envelope_ok false) [(awV.getD 1 zE), (awV.getD 1 zE)] [⟨0, .tmp 73, .agg [Zk3, Zk4], 0⟩, ⟨1, .tmp 76, .agg [Zk3, Zk4], 2⟩] (cs := [Zk3, Zk4, Zk3, Zk4]) Tryz.underlying36 iat_35 rfl zero_35 rfl rfl rfl (Nat.le_of_ble_eq_true rfl) (part_cons rfl rfl (Nat.le_of_ble_eq_true rfl) (part_cons rfl rfl (Nat.le_of_ble_eq_true rfl) part_ok)) (by kernel_rfl) (wk_eq (by kernel_rfl)) (lt_of rfl) trivial),
   hR 11 rfl rfl (ORule.frz 1 78 19 35 (kE false) [(awV.getD 1 zE), (awV.getD 1 zE)] (av := .tv (.agg [Zjn, Zjo, .own 19 (kE false).sz 0 [(awV.getD 1 zE), (awV.getD 1 zE)].length])) (rCa (cert_Prepared (fOf 1) (cOf 1) (tabM (awL 5)) false (aC.mk (saidE awPre) [(awV.getD 1 zE), (awV.getD 1 zE)]) ‹_› ‹_› (by decide) (by decide) ‹_›) Tryz.func10 [0, 1] [(.tmp 69, pv 0 0), (.tmp 78, .tv (.agg [Zjn, Zjo, .d (dsl false false (kE false) [(awV.getD 1 zE), (awV.getD 1 zE)])]))] 2 2) rfl (.inr (kk2 ⟨(.inr ⟨rfl, rfl, rfl, (fun h => by cases h), rfl, rfl, Nat.le_of_eq (Nat.zero_add _), fun i j _ => by rw [Nat.zero_add]⟩), trivial⟩)) (by intro h; cases h) rfl rfl)] ?_
 refine sR [hR 5 rfl rfl (rCa (cert_Prepared (fOf 1) (cOf 1) (tabM (awL 5)) false (aC.mk (saidE awPre) awV) ‹_› ‹_› (by decide) (by decide) ‹_›) Tryz.func10 [0, 1] [(.tmp 84, pv 0 0), (.tmp 87, .tv (.agg [Zjn, Zjo, .d (dsl false false (kE false) awV)]))] 2 2)] ?_
 refine sR [hR 3 rfl rfl (rCa (cert_Request (fOf 1) (cOf 1) (tabM (awL 5)) false (saidE awReq) ‹_› ‹_› (by decide) (by decide)) Tryz.func23 [0, 1] [(.tmp 93, pv 0 0), (.tmp 94, .tv (.agg Zjd))] 2 2)] ?_
 by_cases hq1 : (ceE (checkE (fOf 1) (cOf 1) (tabM (awL 5))) (fOf 1) (aC.mk (saidE awPre) (awV.drop 1)) 3 (2 * (fOf 1))) = 0
 ·by_cases hq2 : (ceV (checkE (fOf 1) (cOf 1) (tabM (awL 5))) (fOf 1) (aC.mk (saidE awPre) (awV.drop 1)) 3 (2 * (fOf 1))).f_Seq = 1
  ·by_cases hq3 : (ceE (checkE (fOf 1) (cOf 1) (tabM (awL 5))) (fOf 1) (aC.mk (saidE awPre) ((awV.take 2).drop 1)) 3 (2 * (fOf 1))) = 32
   ·by_cases hq4 : (ceE (checkE (fOf 1) (cOf 1) (tabM (awL 5))) (fOf 1) (aC.mk (saidE awPre) [(awV.getD 1 zE), (awV.getD 1 zE)]) 3 (2 * (fOf 1))) = 33
    ·by_cases hq5 : (ceE (checkE (fOf 1) (cOf 1) (tabM (awL 5))) (fOf 1) (aC.mk (saidE awPre) awV) 3 (2 * (fOf 1))) = 133
     ·by_cases hq6 : (rqE (checkE (fOf 1) (cOf 1) (tabM (awL 5))) (fOf 1) (saidE awReq)) = 0
      ·by_cases hq7 : (rqV (checkE (fOf 1) (cOf 1) (tabM (awL 5))) (fOf 1) (saidE awReq)).f_Stamp = 1
       ·refine sR [hY 3 (dT hq1),
          hY 4 (dT hq1),
          hY 5 (dT hq1),
          hP 6 (dT hq1),
          hY 8 (dT hq2),
          hY 9 (dT hq2),
          hP 10 (dT hq2),
          hY 12 (dT hq3),
          hY 13 (dT hq3),
          hP 14 (dT hq3),
          hY 16 (dT hq4),
          hY 17 (dT hq4),
          hP 18 (dT hq4),
          hY 20 (dT hq5),
          hY 21 (dT hq5),
          hP 22 (dT hq5),
          hY 24 (dT hq6),
          hY 25 (dT hq6),
          hY 26 (dT hq6),
          hP 27 (dT hq6),
          hY 29 (dT hq7),
          hY 30 (dT hq7),
          hS 31 (oY rfl rfl rfl rfl (lt_of rfl) (dT hq7) (q_strOf () (rqV (checkE (fOf 1) (cOf 1) (tabM (awL 5))) (fOf 1) (saidE awReq)).f_Op (ys := (dU (rqV (checkE (fOf 1) (cOf 1) (tabM (awL 5))) (fOf 1) (saidE awReq)).f_Op)) (rhs := []) Tryz.underlying33 Tryz.underlying5 Tryz.underlying9 (src_sl false false kU8 (rqV (checkE (fOf 1) (cOf 1) (tabM (awL 5))) (fOf 1) (saidE awReq)).f_Op) (lt_of rfl) (by exact trivial))),
          hY 32 (dT hq7),
          hP 33 (dT hq7)] ?_
        refine T.ret ?_
        exact eRt 0 (.one (dB (decide ((rqV (checkE (fOf 1) (cOf 1) (tabM (awL 5))) (fOf 1) (saidE awReq)).f_Op = [111, 112])))) [] (cB (by rfl)) trivial
       exact absurd (by decide +kernel) hq7
      exact absurd (by decide +kernel) hq6
     exact absurd (by decide +kernel) hq5
    exact absurd (by decide +kernel) hq4
   exact absurd (by decide +kernel) hq3
  exact absurd (by decide +kernel) hq2
 exact absurd (by decide +kernel) hq1
end Go.Proofs.YtalapplihdmenaaGreat.Q
namespace Go.Proofs.YtalapplihdmenaaGreat.Q
set_option linter.unusedVariables false
set_option maxRecDepth 100000
theorem req_small : [reqE].length ≤ 4 ∧ ∀ e, e ∈ [reqE] → i64R e.f_Signer ∧ e.f_Body.length ≤ 30000 := ⟨by decide, fun e he => by
  rw [List.mem_singleton] at he
  subst he
  exact ⟨by unfold i64R; decide, few_encB few_req⟩⟩
theorem ce_msg {C : aE → Int} {f kind need : Int} {c : quaestorlaw13_Case} : (ceE C f (madeC f c) kind need = 0 ∧ ceV C f (madeC f c) kind need = preM c) ∨ (ceE C f (madeC f c) kind need ≠ 0 ∧ ceV C f (madeC f c) kind need = zM) := by
  by_cases h : ceE C f (madeC f c) kind need = 0
  · have hp : ¬ ppE C f (madeC f c).f_Pre ≠ 0 := fun q => by
      have := (ce_p (C := C) (f := f) (c := madeC f c) (kind := kind) (need := need) q).2
      rw [this] at h
      exact q h
    refine .inl ⟨h, ?_⟩
    have e : ceV C f (madeC f c) kind need = decV (madeC f c).f_Pre.f_Body := if_pos h
    rw [e, ← pp_val hp]
    exact bin_pp (v := c.f_View) (n := c.f_Seq) req_small hp
  · exact .inr ⟨h, if_neg h⟩
end Go.Proofs.YtalapplihdmenaaGreat.Q
namespace Go.Proofs.YtalapplihdmenaaGreat.Q
set_option linter.unusedVariables false
set_option linter.unusedSimpArgs false
set_option maxRecDepth 100000
theorem first_inv {h : Nat → Int} : ∀ {n : Nat}, firstN h n = 0 → ∀ j, j < n → h j = 0
  | 0, _, j, hj => absurd hj (Nat.not_lt_zero _)
  | n + 1, q, j, hj => by
    rw [firstN] at q
    split at q
    · rename_i w; exact absurd q w
    · rename_i w
      rcases Nat.lt_or_ge j n with h1 | h1
      · exact first_inv (Classical.not_not.1 w) j h1
      · rw [show j = n by omega]; exact q
theorem tly_inv {g : aE → Int} {x : List aE} {need : Int} (h : ¬ tlyE g x need ≠ 0) : (∀ j, j < x.length → ¬ g (x.getD j zE) ≠ 0 ∧ ¬ twiceL x j) ∧ ¬ ((x.length : Nat) : Int) < need := by
  have h := Classical.not_not.1 h
  unfold tlyE at h
  split at h
  · rename_i w; exact absurd h w
  · rename_i w
    refine ⟨fun j hj => ?_, fun q => by rw [if_pos q] at h; cases h⟩
    have e := first_inv (Classical.not_not.1 w) j hj
    unfold votN at e
    split at e
    · rename_i w2; exact absurd e w2
    · rename_i w2
      refine ⟨w2, fun q => ?_⟩
      rw [if_pos q] at e; cases e
theorem vt_inv {C : aE → Int} {f k : Int} {e : aE} (h : ¬ vtE C f e k ≠ 0) : C e = 0 ∧ (decV e.f_Body).f_Kind = k ∧ isReplica f e.f_Signer ∧ ¬ opE C e k ≠ 0 := by
  have h := Classical.not_not.1 h
  unfold vtE at h
  split at h
  · rename_i w; exact absurd h w
  · rename_i w
    split at h
    · cases h
    · split at h
      · cases h
      · rename_i w3
        have w' := w
        have w := Classical.not_not.1 w
        unfold opE at w
        split at w
        · rename_i q; exact absurd w q
        · rename_i q
          split at w
          · cases w
          · split at w
            · cases w
            · rename_i q3
              exact ⟨Classical.not_not.1 q, Classical.not_not.1 q3, Classical.not_not.1 w3, w'⟩
theorem gC_inv {C : aE → Int} {f kind pre : Int} {p : aM} {e : aE} (h : ¬ gC C f p kind pre e ≠ 0) : ¬ vtE C f e kind ≠ 0 ∧ (decV e.f_Body).f_View = p.f_View ∧ (decV e.f_Body).f_Seq = p.f_Seq ∧ (decV e.f_Body).f_Digest = p.f_Digest ∧ ¬ (kind = 3 ∧ e.f_Signer = pre) := by
  have h := Classical.not_not.1 h
  unfold gC at h
  split at h
  · rename_i w; exact absurd h w
  · rename_i w
    refine ⟨w, ?_⟩
    unfold musE at h
    split at h
    · cases h
    · rename_i w1
      split at h
      · cases h
      · rename_i w2
        split at h
        · cases h
        · rename_i w3
          split at h
          · cases h
          · rename_i w4
            exact ⟨Classical.not_not.1 w1, Classical.not_not.1 w2, Classical.not_not.1 w3, w4⟩
theorem ce_inv {C : aE → Int} {f kind need : Int} {c : aC} (h : ¬ ceE C f c kind need ≠ 0) : ¬ ppE C f c.f_Pre ≠ 0 ∧ ¬ tlyE (gC C f (ppV C f c.f_Pre) kind c.f_Pre.f_Signer) c.f_Votes need ≠ 0 := by
  have hp : ¬ ppE C f c.f_Pre ≠ 0 := fun q => h (by rw [(ce_p (kind := kind) (need := need) q).2]; exact q)
  exact ⟨hp, fun q => h (by rw [ce_is hp]; exact q)⟩
theorem sgn_all (x : List aE) : sgn x x.length = x.map (·.f_Signer) := by unfold sgn; rw [List.take_length]
theorem sgn_nodup {x : List aE} (h : ∀ j, j < x.length → ¬ twiceL x j) : (sgn x x.length).Nodup := by
  rw [sgn_all, List.Nodup, List.pairwise_iff_getElem]
  intro i j hi hj hij e
  rw [List.length_map] at hi hj
  refine h j hj ⟨i, hij, ?_⟩
  rw [List.getElem_map, List.getElem_map] at e
  rw [List.getD_eq_getElem?_getD, List.getD_eq_getElem?_getD, List.getElem?_eq_getElem hi, List.getElem?_eq_getElem hj]
  exact e
theorem sgn_mem {x : List aE} {s : Int} (h : s ∈ sgn x x.length) : ∃ j, j < x.length ∧ (x.getD j zE).f_Signer = s := by
  rw [sgn_all] at h
  obtain ⟨e, he, rfl⟩ := List.mem_map.1 h
  obtain ⟨j, hj, rfl⟩ := List.getElem_of_mem he
  exact ⟨j, hj, by rw [List.getD_eq_getElem?_getD, List.getElem?_eq_getElem hj]; rfl⟩
theorem cnt_all {f : Int} (hf : 0 ≤ f ∧ f ≤ 2) {x : List aE} (h1 : ∀ j, j < x.length → isReplica f (x.getD j zE).f_Signer) (h2 : ∀ j, j < x.length → ¬ twiceL x j) : cntR f (sgn x x.length) = x.length := by
  rw [← cnt_of_mem (l := sgn x x.length) hf (sgn_nodup h2) fun s => ⟨fun h => ⟨by obtain ⟨j, hj, rfl⟩ := sgn_mem h; exact h1 j hj, h⟩, And.right⟩, sgn_len (Nat.le_refl _)]
theorem vot_open {C : aE → Int} {s k : Int} {c : quaestorlaw13_Case} {v : quaestorlaw13_Vote} (h : ¬ opE C ⟨s, encB (votM c v)⟩ k ≠ 0) : decV (encB (votM c v)) = votM c v := by
  have hl := few_len (few_vot c v)
  refine (op_back (by omega) (fun hw => rng_of hw (show i64R 0 by unfold i64R; decide) (show i64R 0 by unfold i64R; decide) (by omega) (fun e he => by cases he) (fun e he => by cases he) (fun c hc => by cases hc)) h).1
def comM (c : quaestorlaw13_Case) : aM := ⟨4, c.f_View, c.f_Seq, 0, 0, bchB [reqE], [], z_api_Result, [], [], []⟩
theorem few_com (c : quaestorlaw13_Case) : fewM (comM c) := small_len bch_len rfl (.inl rfl) rfl rfl
theorem many {C : aE → Int} {f : Int} {c : quaestorlaw13_Case} (hf : 0 ≤ f ∧ f ≤ 2) (h : ¬ ceE C f (madeC f c) 4 (2 * f + 1) ≠ 0) :
    (∀ j, j < (madeC f c).f_Votes.length → C ⟨((madeC f c).f_Votes.getD j zE).f_Signer, encB (comM c)⟩ = 0) ∧ cntR f (sgn (madeC f c).f_Votes (madeC f c).f_Votes.length) = (madeC f c).f_Votes.length ∧ 2 * f + 1 ≤ (((madeC f c).f_Votes.length : Nat) : Int) ∧ ceV C f (madeC f c) 4 (2 * f + 1) = preM c := by
  obtain ⟨hp, ht⟩ := ce_inv h
  have hv := bin_pp (v := c.f_View) (n := c.f_Seq) req_small hp
  have hv : ppV C f (madeC f c).f_Pre = preM c := hv
  rw [hv] at ht
  obtain ⟨hj, hn⟩ := tly_inv ht
  have hlen : (madeC f c).f_Votes.length = c.f_Votes.length := by show ((madeW c).map saidE).length = _; rw [List.length_map, made_lenW]
  have at_ : ∀ j, j < (madeC f c).f_Votes.length → ∃ v, (madeC f c).f_Votes.getD j zE = saidE (votW c v) := fun j q =>
    ⟨_, (said_get (ws := madeW c) (by rw [made_lenW, ← hlen]; exact q)).trans (by rw [made_getW (by rw [← hlen]; exact q)])⟩
  refine ⟨fun j q => ?_, cnt_all hf (fun j q => (vt_inv (gC_inv (hj j q).1).1).2.2.1) (fun j q => (hj j q).2), by omega, ?_⟩
  · obtain ⟨v, e⟩ := at_ j q
    obtain ⟨g1, g2, g3, g4, _⟩ := gC_inv (hj j q).1
    obtain ⟨a1, a2, a3, a4⟩ := vt_inv g1
    rw [e] at g2 g3 g4 a1 a2 a4 ⊢
    have ed : decV (saidE (votW c v)).f_Body = votM c v := vot_open a4
    rw [ed] at g2 g3 g4 a2
    have em : votM c v = comM c := (api_Message_iff _ _).2 ⟨a2, g2, g3, rfl, rfl, g4, rfl, rfl, rfl, rfl, rfl⟩
    rw [← em]
    exact a1
  · rcases ce_msg (C := C) (f := f) (kind := 4) (need := 2 * f + 1) (c := c) with ⟨_, e⟩ | ⟨q, _⟩
    · exact e
    · exact absurd q h
end Go.Proofs.YtalapplihdmenaaGreat.Q
namespace Go.Proofs.YtalapplihdmenaaGreat.Q
open Go Go.RowKit
set_option linter.unusedVariables false
set_option linter.unusedSimpArgs false
set_option maxRecDepth 100000
set_option maxHeartbeats 4000000
end Go.Proofs.YtalapplihdmenaaGreat.Q
