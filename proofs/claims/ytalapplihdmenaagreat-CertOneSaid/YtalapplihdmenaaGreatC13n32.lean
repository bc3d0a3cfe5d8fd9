import Derived.Test.YtalapplihdmenaaGreatC13n31
namespace Go.Proofs.YtalapplihdmenaaGreat.Q
open Go Go.RowKit
set_option linter.unusedVariables false
set_option linter.unusedSimpArgs false
set_option maxRecDepth 100000
set_option maxHeartbeats 4000000
section
variable (f : Int) (u : Int) (l : List aE) (c : quaestorlaw13_Case) (k : Nat)
abbrev Zj0 : AV := .tv (.agg [.ptr 0 0, .ptr 2 0])
abbrev Zj1 : List SV := [dI c.f_View, dI c.f_Seq, dI c.f_Primary, .d (dsl false false (k_quaestorlaw13_Vote false) c.f_Votes)]
abbrev Zj2 : AV := .tv (.agg (Zj1 c))
abbrev Zj3 : HS := .live (.box 98 [dI (3 * f + 1), dI u, .mref 1])
abbrev Zj4 : SV := .d (.val (.slice none 0 0))
abbrev Zj5 : List AV := [Zj0, (Zj2 c), pv 4 0, pv 5 0, pv 6 0, pv 8 0]
abbrev Zj6 := (aW.mk 1000 true (aM.mk 1 0 0 1000 1 [] ([] : List UInt8) (api_Result.mk 0 0) ([] : List aE) ([] : List aE) ([] : List aC)))
abbrev Zj7 : HS := .live (.box 31 [.ptr 0 0, .ptr 2 0])
abbrev Zj8 : HS := .live (.box 26 (Zj1 c))
abbrev Zj9 : HS := .live (.box 38 [dI 0, Zj4, Zj4])
abbrev Zja : List HS := [(Zj3 f u), .live (mpK f_authn_pair kBool (tabM (saidL f u l Zj6))), .live (.box 75 [dB true, dI f, dI u, .own 7 (kE false).sz 0 (saidL f u l Zj6).length]), .dead, Zj7, (Zj8 c), Zj9, .live (arrK 35 (kE false) (saidL f u l Zj6)), .live (.box 35 [dI (saidE Zj6).f_Signer, dU (saidE Zj6).f_Body])]
abbrev Zjb := (saidL f u l (aW.mk 1000 true reqM))
abbrev Zjc : HS := .live (mpK f_authn_pair kBool (tabM (Zjb f u l)))
abbrev Zjd : HS := .live (.box 75 [dB true, dI f, dI u, .own 7 (kE false).sz 0 (Zjb f u l).length])
abbrev Zje : HS := .live (arrK 35 (kE false) (Zjb f u l))
abbrev Zjf : List SV := [dI reqE.f_Signer, dU reqE.f_Body]
abbrev Zjg : HS := .live (.box 35 Zjf)
abbrev Zjh : List HS := [(Zj3 f u), (Zjc f u l), (Zjd f u l), .dead, Zj7, (Zj8 c), Zj9, (Zje f u l), Zjg]
abbrev Zji : St := ⟨[Zj0, (Zj2 c), pv 4 0, pv 5 0, pv 6 0, pv 8 0, pv 10 0], [(Zj3 f u), (Zjc f u l), (Zjd f u l), .dead, Zj7, (Zj8 c), Zj9, (Zje f u l), Zjg, .live (arrK 35 (kE false) [reqE]), .live (.box 46 [dI 2, dI c.f_View, dI c.f_Seq, dI 0, dI 0, dS [], Zj4, dI 0, dI 0, .own 9 (kE false).sz 0 [reqE].length, Zj4, Zj4])]⟩
abbrev Zjj : SV := .d (dsl false false (kE false) [reqE])
abbrev Zjk : AV := vB (decide (c.f_Primary < 0))
abbrev Zjl : List AV := [Zj0, (Zj2 c), pv 4 0, pv 5 0, pv 6 0, pv 8 0, pv 10 0, vI (priC f c), aa, aa, aa, aa, aa, aa, aa, aa, aa, aa, aa, aa, aa, aa, aa, aa, aa, aa, aa, aa, aa, (Zjk c)]
abbrev Zjm : List SV := [dI (preM c).f_Kind, dI (preM c).f_View, dI (preM c).f_Seq, dI (preM c).f_Client, dI (preM c).f_Stamp, dS (preM c).f_Digest, dU (preM c).f_Data, dI (preM c).f_Result.f_Code, dI (preM c).f_Result.f_Stage, .d (dsl false false (kE false) (preM c).f_Batch), .d (dsl false false (kE false) (preM c).f_Pres), .d (dsl false false (kC false) (preM c).f_Certs)]
abbrev Zjn : HS := .live (.box 46 (Zjm c))
abbrev Zjo : List HS := [(Zj3 f u), (Zjc f u l), (Zjd f u l), .dead, Zj7, (Zj8 c), Zj9, (Zje f u l), Zjg, .dead, (Zjn c)]
abbrev Zjp : List AV := [Zj0, (Zj2 c), pv 4 0, pv 5 0, pv 6 0, pv 8 0, pv 10 0, vI (primaryA f c.f_View), aa, aa, aa, aa, aa, aa, aa, aa, aa, aa, aa, aa, aa, aa, aa, aa, aa, aa, aa, aa, aa, (Zjk c)]
abbrev Zjq : List HS := [(Zj3 f u), (Zjc f u l), (Zjd f u l), .dead, Zj7, (Zj8 c), Zj9, (Zje f u l), Zjg, .dead, .live (.box 46 [dI 2, dI c.f_View, dI c.f_Seq, dI 0, dI 0, dS (bchB [reqE]), Zj4, dI 0, dI 0, Zjj, Zj4, Zj4])]
abbrev Zjr : SV := dU ([] : List UInt8)
abbrev Zjs : SV := .d (dsl false false (kE false) ([] : List aE))
abbrev Zjt : SV := .d (dsl false false (kC false) ([] : List aC))
abbrev Zju : List HS := [(Zj3 f u), (Zjc f u l), (Zjd f u l), .dead, Zj7, (Zj8 c), Zj9, (Zje f u l), Zjg, .dead, .live (.box 46 [dI 2, dI c.f_View, dI c.f_Seq, dI 0, dI 0, dS (bchB [reqE]), Zjr, dI 0, dI 0, Zjj, Zjs, Zjt])]
abbrev Zjv : List AV := [Zj0, (Zj2 c), pv 4 0, pv 5 0, pv 6 0, pv 8 0, pv 10 0, vI c.f_Primary, aa, aa, aa, aa, aa, aa, aa, aa, aa, aa, aa, aa, aa, aa, aa, aa, aa, aa, aa, aa, aa, (Zjk c)]
abbrev Zjw : List AV := [Zj0, (Zj2 c), pv 4 0, pv 5 0, pv 6 0, pv 8 0, pv 10 0, vI (priC f c), pv 12 0, aa, aa, aa, aa, aa, aa, aa, aa, aa, aa, aa, aa, aa, aa, aa, aa, aa, aa, aa, aa, (Zjk c)]
abbrev Zjx := (aW.mk (priC f c) true (preM c))
abbrev Zjy : SV := dI (saidE (Zjx f c)).f_Signer
abbrev Zjz : SV := dU (saidE (Zjx f c)).f_Body
abbrev Zk0 : List HS := [(Zj3 f u), .live (mpK f_authn_pair kBool (tabM (saidL f u (Zjb f u l) (Zjx f c)))), .live (.box 75 [dB true, dI f, dI u, .own 11 (kE false).sz 0 (saidL f u (Zjb f u l) (Zjx f c)).length]), .dead, Zj7, (Zj8 c), Zj9, .dead, Zjg, .dead, (Zjn c), .live (arrK 35 (kE false) (saidL f u (Zjb f u l) (Zjx f c))), .live (.box 38 [(Zjy f c), (Zjz f c), Zj4])]
abbrev Zk1 : HS := .live (.box 75 [dB true, dI f, dI u, .own 11 (kE false).sz 0 (made0 f u l c).length])
abbrev Zk2 : List HS := [(Zj3 f u), .live (mpK f_authn_pair kBool (tabM (made0 f u l c))), (Zk1 f u l c), .dead, Zj7, (Zj8 c), Zj9, .dead, Zjg, .dead, (Zjn c), .live (arrK 35 (kE false) (made0 f u l c)), .live (.box 38 [(Zjy f c), (Zjz f c), Zj4])]
abbrev Zk3 : List AV := [Zj0, (Zj2 c), pv 4 0, pv 5 0, pv 6 0, pv 8 0, pv 10 0, vI (priC f c), pv 12 0, vI 0, aa, aa, aa, aa, aa, aa, aa, aa, aa, aa, aa, aa, aa, aa, aa, aa, aa, aa, aa, (Zjk c)]
abbrev Zk4 : HS := .live (mpK f_authn_pair kBool (tabM (madeL f u l c k)))
abbrev Zk5 : HS := .live (.box 75 [dB true, dI f, dI u, .own 4 (kE false).sz 0 (madeL f u l c k).length])
abbrev Zk6 : HS := .live (arrK 35 (kE false) (madeL f u l c k))
abbrev Zk7 : SV := .own 9 (kE false).sz 0 (((madeW c).take k).map saidE).length
abbrev Zk8 : HS := .live (.box 38 [(Zjy f c), (Zjz f c), (Zk7 c k)])
abbrev Zk9 : HS := .live (arrK 35 (kE false) (((madeW c).take k).map saidE))
abbrev Zka : St := ⟨[aa, aa, pv 5 0, pv 6 0, pv 10 0, aa, pv 7 0, aa, pv 8 0, vI ((k : Nat) : Int)], [(Zj3 f u), (Zk4 f u l c k), (Zk5 f u l c k), .dead, (Zk6 f u l c k), Zj7, (Zj8 c), (Zjn c), (Zk8 f c k), (Zk9 c k), Zj9]⟩
abbrev Zkb : List AV := [aa, aa, pv 5 0, pv 6 0, pv 10 0, aa, pv 7 0, aa, pv 8 0, vI ((k : Nat) : Int), pv 11 0, pv 12 0, aa, aa, aa, aa, aa, aa, aa, aa, aa, aa, aa, aa, aa, aa, aa, aa, aa, aa, aa, aa, aa, aa, aa, aa, aa, aa, aa, aa, aa, aa, aa, aa, vB (decide (((k : Nat) : Int) < ((c.f_Votes.length : Nat) : Int))), aa, aa, aa, aa, aa, aa, aa, aa, aa, aa, aa, aa, aa, aa, aa, aa, aa, aa, aa, aa, aa, aa, aa, aa, aa, vB (c.f_Votes.getD k z_quaestorlaw13_Vote).f_Other]
abbrev Zkc : SV := dI (c.f_Votes.getD k z_quaestorlaw13_Vote).f_Kind
abbrev Zkd : HS := .live (.box 68 [dI (c.f_Votes.getD k z_quaestorlaw13_Vote).f_Signer, (Zkc c k), dI (c.f_Votes.getD k z_quaestorlaw13_Vote).f_View, dI (c.f_Votes.getD k z_quaestorlaw13_Vote).f_Seq, dB (c.f_Votes.getD k z_quaestorlaw13_Vote).f_Other, dB (c.f_Votes.getD k z_quaestorlaw13_Vote).f_Unsigned])
abbrev Zke : SV := dI (c.f_View + (Int.tmod (c.f_Votes.getD k z_quaestorlaw13_Vote).f_View 3))
abbrev Zkf : SV := dI (c.f_Seq + (Int.tmod (c.f_Votes.getD k z_quaestorlaw13_Vote).f_Seq 3))
abbrev Zkg : SV := dS (if (c.f_Votes.getD k z_quaestorlaw13_Vote).f_Other = true then otherD else bchB [reqE])
abbrev Zkh : List HS := [(Zj3 f u), (Zk4 f u l c k), (Zk5 f u l c k), .dead, (Zk6 f u l c k), Zj7, (Zj8 c), (Zjn c), (Zk8 f c k), (Zk9 c k), Zj9, (Zkd c k), .live (.box 46 [(Zkc c k), (Zke c k), (Zkf c k), dI 0, dI 0, (Zkg c k), Zj4, dI 0, dI 0, Zj4, Zj4, Zj4])]
abbrev Zki : List HS := [(Zj3 f u), (Zk4 f u l c k), (Zk5 f u l c k), .dead, (Zk6 f u l c k), Zj7, (Zj8 c), (Zjn c), (Zk8 f c k), (Zk9 c k), Zj9, (Zkd c k), .live (.box 46 [(Zkc c k), (Zke c k), (Zkf c k), dI 0, dI 0, dS [97, 110, 111, 116, 104, 101, 114, 32, 111, 110, 101], Zj4, dI 0, dI 0, Zj4, Zj4, Zj4])]
abbrev Zkj : List HS := [(Zj3 f u), (Zk4 f u l c k), (Zk5 f u l c k), .dead, (Zk6 f u l c k), Zj7, (Zj8 c), (Zjn c), (Zk8 f c k), (Zk9 c k), Zj9, (Zkd c k), .live (.box 46 [(Zkc c k), (Zke c k), (Zkf c k), dI 0, dI 0, dS (preM c).f_Digest, Zj4, dI 0, dI 0, Zj4, Zj4, Zj4])]
abbrev Zkk : List AV := [aa, aa, pv 5 0, pv 6 0, pv 10 0, aa, pv 7 0, aa, pv 8 0, vI ((k : Nat) : Int), pv 11 0, pv 12 0, aa, aa, aa, aa, aa, aa, aa, aa, aa, aa, aa, aa, aa, aa, aa, aa, aa, aa, aa, aa, aa, aa, aa, aa, aa, aa, aa, aa, aa, aa, aa, aa, vB (decide (((k : Nat) : Int) < ((c.f_Votes.length : Nat) : Int))), aa, aa, aa, aa, aa, aa, aa, aa, aa, aa, aa, aa, aa, aa, aa, aa, aa, aa, aa, aa, aa, aa, aa, aa, aa, vB (c.f_Votes.getD k z_quaestorlaw13_Vote).f_Other, aa, aa, aa, vB (decide ((c.f_Votes.getD k z_quaestorlaw13_Vote).f_Kind = 5))]
abbrev Zkl := (votM c (c.f_Votes.getD k z_quaestorlaw13_Vote))
abbrev Zkm : List HS := [(Zj3 f u), (Zk4 f u l c k), (Zk5 f u l c k), .dead, (Zk6 f u l c k), Zj7, (Zj8 c), (Zjn c), (Zk8 f c k), (Zk9 c k), Zj9, (Zkd c k), .live (.box 46 [dI (Zkl c k).f_Kind, dI (Zkl c k).f_View, dI (Zkl c k).f_Seq, dI (Zkl c k).f_Client, dI (Zkl c k).f_Stamp, dS (Zkl c k).f_Digest, dU (Zkl c k).f_Data, dI (Zkl c k).f_Result.f_Code, dI (Zkl c k).f_Result.f_Stage, .d (dsl false false (kE false) (Zkl c k).f_Batch), .d (dsl false false (kE false) (Zkl c k).f_Pres), .d (dsl false false (kC false) (Zkl c k).f_Certs)])]
abbrev Zkn : St := ⟨(Zkk c k), [(Zj3 f u), (Zk4 f u l c k), (Zk5 f u l c k), .dead, (Zk6 f u l c k), Zj7, (Zj8 c), (Zjn c), (Zk8 f c k), (Zk9 c k), Zj9, (Zkd c k), .live (.box 46 [(Zkc c k), dI 0, (Zkf c k), dI 0, dI 0, (Zkg c k), Zj4, dI 0, dI 0, Zj4, Zj4, Zj4])]⟩
abbrev Zko : List HS := [(Zj3 f u), (Zk4 f u l c k), (Zk5 f u l c k), .dead, (Zk6 f u l c k), Zj7, (Zj8 c), (Zjn c), (Zk8 f c k), (Zk9 c k), Zj9, (Zkd c k), .live (.box 46 [(Zkc c k), dI 0, (Zkf c k), dI 0, dI 0, (Zkg c k), Zjr, dI 0, dI 0, Zjs, Zjs, Zjt])]
abbrev Zkp : List HS := [(Zj3 f u), (Zk4 f u l c k), (Zk5 f u l c k), .dead, (Zk6 f u l c k), Zj7, (Zj8 c), (Zjn c), (Zk8 f c k), (Zk9 c k), Zj9, (Zkd c k), .live (.box 46 [(Zkc c k), (Zke c k), (Zkf c k), dI 0, dI 0, (Zkg c k), Zjr, dI 0, dI 0, Zjs, Zjs, Zjt])]
abbrev Zkq := (aW.mk (c.f_Votes.getD k z_quaestorlaw13_Vote).f_Signer (!(c.f_Votes.getD k z_quaestorlaw13_Vote).f_Unsigned) (Zkl c k))
abbrev Zkr : List AV := [aa, aa, pv 5 0, pv 6 0, pv 10 0, aa, pv 7 0, aa, pv 8 0, vI ((k + 1 : Nat) : Int)]
end
theorem law_madeO (f : Int) (u : Int) (rows : List (authn_pair × Bool)) (l : List aE) (c : quaestorlaw13_Case) (hf : 0 ≤ f ∧ f ≤ 2) (hu : 0 ≤ u ∧ u ≤ 8) (hrl : rows = tabM l) (hl : l.length ≤ 1000) (hb : bndC c) (hr : rngC c) : Holds Tryz.prog 9 ⟨[.tv (.agg [.ptr 0 0, .ptr 2 0]), .tv (.agg [dI c.f_View, dI c.f_Seq, dI c.f_Primary, .d (dsl false false (k_quaestorlaw13_Vote false) c.f_Votes)])], [.box 98 [dI (3 * f + 1), dI u, .mref 1], mpK f_authn_pair kBool rows, .box 75 [dB true, dI f, dI u, .own 3 (kE false).sz 0 l.length], arrK 35 (kE false) l], .tv (.agg [dI (madeC f c).f_Pre.f_Signer, dU (madeC f c).f_Pre.f_Body, .own 5 (kE false).sz 0 (madeC f c).f_Votes.length]), [.live (.box 98 [dI (3 * f + 1), dI u, .mref 1]), .live (mpK f_authn_pair kBool (tabM (madeL f u l c c.f_Votes.length))), .live (.box 75 [dB true, dI f, dI u, .own 4 (kE false).sz 0 (madeL f u l c c.f_Votes.length).length]), .dead, .live (arrK 35 (kE false) (madeL f u l c c.f_Votes.length)), .live (arrK 35 (kE false) (madeC f c).f_Votes)]⟩ := by
 refine Holds.of Tryz.func9 rfl (N := 91) Tryz.ntmps9 rfl fun w0 B0 S0 U0 => ?_
 show T _ (mkBase 91 4 w0 S0 U0 B0) ⟨[Zj0, (Zj2 c)], [(Zj3 f u), .live (mpK f_authn_pair kBool rows), .live (.box 75 [dB true, dI f, dI u, .own 3 (kE false).sz 0 l.length]), .live (arrK 35 (kE false) l)]⟩ _ _
 have hpi := pri_ok hf hr hb
 have hpi2 : -9223372036854775808 ≤ (priC f c) ∧ (priC f c) ≤ 9223372036854775807 := hpi
 have hok1 := few_okM few_req
 have hok2 := few_okM (few_pre c)
 have hrq := req_envs
 have hm0 := made0_len f u l c
 have hs1 := said_len f u l (aW.mk 1000 true reqM)
 have hbd := hb
 obtain ⟨hb1, hb2, hb3, hb4, hb5⟩ := hbd
 refine sR [] ?_
 refine sR [hR 2 rfl rfl (rCn (law_sign f u rows l 1000 false (aM.mk 1 0 0 1000 1 [] ([] : List UInt8) (api_Result.mk 0 0) ([] : List aE) ([] : List aE) ([] : List aC)) ‹_› ‹_› ‹_› (by omega) (by omega) ‹_›) Tryz.func16 [0, 1, 2, 3, 7] [(.tmp 12, Zj0), (.const (.int .i64 1000), vI 1000), (.tmp 13, .tv (.agg [dI 1, dI 0, dI 0, dI 1000, dI 1, dS [], Zj4, dI 0, dI 0, Zj4, Zj4, Zj4]))] 4 5 ⟨⟨.inl ⟨rfl, rfl⟩, ⟨.inl ⟨rfl, rfl⟩, trivial⟩⟩, ⟨.inl ⟨rfl, rfl⟩, ⟨⟨.inl ⟨rfl, rfl⟩, ⟨.inl ⟨rfl, rfl⟩, ⟨.inl ⟨rfl, rfl⟩, ⟨.inl ⟨rfl, rfl⟩, ⟨.inl ⟨rfl, rfl⟩, ⟨.inl ⟨rfl, rfl⟩, ⟨.inr (.inr ⟨rfl, rfl, rfl⟩), ⟨.inl ⟨rfl, rfl⟩, ⟨.inl ⟨rfl, rfl⟩, ⟨.inr (.inr ⟨rfl, rfl, rfl⟩), ⟨.inr (.inr ⟨rfl, rfl, rfl⟩), ⟨.inr (.inr ⟨rfl, rfl, rfl⟩), trivial⟩⟩⟩⟩⟩⟩⟩⟩⟩⟩⟩⟩, trivial⟩⟩⟩ ⟨rfl, trivial⟩)] ?_
 refine tN ⟨(Zj5 c), (Zja f u l c)⟩ ?_
 refine T.turn (s' := ⟨(Zj5 c), (Zjh f u l c)⟩) (fun _ _ hG => Gs.iI [0, 1, 2, 3, 4, 5, 6, 7, 8] (bm 6 63) (h2 := (Zja f u l c)) rfl (cg5 (fun (q1 : List (authn_pair × Bool)) (q2 : Nat) (q3 : List aE) (q4 : Int) (q5 : List UInt8) => ([(Zj3 f u), .live (mpK f_authn_pair kBool q1), .live (.box 75 [dB true, dI f, dI u, .own 7 (kE false).sz 0 q2]), .dead, Zj7, (Zj8 c), Zj9, .live (arrK 35 (kE false) q3), .live (.box 35 [dI q4, dU q5])] : List HS)) (by rfl) (by rfl) (by rfl) (by rfl) (by rfl)) hG) ?_
 refine sR [hR 5 rfl rfl (q_buildSlice 9 35 (kE false) (k_api_Envelope_ok false) [reqE] [⟨0, .tmp 19, .agg Zjf, 0⟩] (cs := [dI reqE.f_Signer, dU reqE.f_Body]) Tryz.underlying36 iat_35 rfl zero_35 rfl rfl rfl (Nat.le_of_ble_eq_true rfl) (part_cons rfl rfl (Nat.le_of_ble_eq_true rfl) part_ok) (by kernel_rfl) (wk_eq (by kernel_rfl)) (lt_of rfl) trivial)] ?_
 refine tN (Zji f u l c) ?_
 refine T.turn (s' := ⟨[Zj0, (Zj2 c), pv 4 0, pv 5 0, pv 6 0, pv 8 0, pv 10 0], [(Zj3 f u), (Zjc f u l), (Zjd f u l), .dead, Zj7, (Zj8 c), Zj9, (Zje f u l), Zjg, .dead, .live (.box 46 [dI 2, dI c.f_View, dI c.f_Seq, dI 0, dI 0, dS [], Zj4, dI 0, dI 0, Zjj, Zj4, Zj4])]⟩) (fun _ _ hG => Gs.freeze (s := (Zji f u l c)) 9 (el := elOf (kE false) [reqE]) (sz := (kE false).sz) (n := [reqE].length) rfl ⟨.inl rfl, (kk2 (kk4 trivial))⟩ ⟨(.inr ⟨by decide, .inl rfl⟩), ⟨(.inr ⟨by decide, .inl rfl⟩), ⟨(.inr ⟨by decide, .inl rfl⟩), ⟨(.inr ⟨by decide, .inl rfl⟩), ⟨(.inr ⟨by decide, .inl rfl⟩), ⟨(.inr ⟨by decide, .inl rfl⟩), ⟨(.inr ⟨by decide, .inl rfl⟩), ⟨(.inr ⟨by decide, .inl rfl⟩), ⟨(.inr ⟨by decide, .inl rfl⟩), ⟨(.inl ⟨rfl, rfl⟩), ⟨(.inr ⟨by decide, .inr ⟨rfl, ⟨.inl rfl, (kk8 ⟨(.inr ⟨rfl, rfl, rfl, (fun h => by cases h), rfl, rfl, Nat.le_of_eq (Nat.zero_add _), fun i j _ => by rw [Nat.zero_add]⟩), (kk2 trivial)⟩)⟩⟩⟩), trivial⟩⟩⟩⟩⟩⟩⟩⟩⟩⟩⟩ hG) ?_
 refine sR [hR 2 rfl rfl (rCa (ref12_Batch false false false [reqE] ‹_›) Tryz.func15 [] [(.tmp 23, slV false false (kE false) [reqE])] 0 0)] ?_
 refine sR [] ?_
 refine T.join ⟨(Zjl f c), (Zjo f u l c)⟩ ?_ ?_
 ·refine sR [] ?_
  by_cases hq1 : c.f_Primary < 0
  ·refine cT (dT hq1) ?_
   refine xK [hR 4 rfl rfl (rCa (ref03_Primary f u (saidL f u l (aW.mk 1000 true reqM)) c.f_View ‹_› ‹_›) Tryz.func17 [2, 7] [(.tmp 31, pv 2 0), (.tmp 33, vI c.f_View)] 2 2)] ?_
   refine eN ⟨(Zjp f c), (Zjq f u l c)⟩ ?_
   refine Ends.turn (s' := ⟨(Zjp f c), (Zju f u l c)⟩) (fun _ _ hG => Gs.less (s := ⟨(Zjp f c), (Zjq f u l c)⟩) (kk2 (kk4 (kk8 (kk16 trivial)))) (kk2 (kk8 ⟨(.inr ⟨rfl, (kk2 (kk4 ⟨(.inr ⟨rfl, rfl, rfl⟩), ⟨.inl rfl, (kk2 ⟨(.inr ⟨rfl, rfl, rfl⟩), ⟨(.inr ⟨rfl, rfl, rfl⟩), trivial⟩⟩)⟩⟩))⟩), trivial⟩)) hG) ?_
   refine Ends.turn (s' := ⟨(Zjl f c), (Zjo f u l c)⟩) (fun _ _ hG => Gs.i2 [0, 1, 2, 3, 4, 5, 6, 7, 8, 21, 10] (bm 30 536871167) (t1 := (Zjl f c)) (t2 := (Zjp f c)) (h1 := (Zjo f u l c)) (h2 := (Zju f u l c)) (congrArg (fun (q1 : Int) => ([Zj0, (Zj2 c), pv 4 0, pv 5 0, pv 6 0, pv 8 0, pv 10 0, vI q1, aa, aa, aa, aa, aa, aa, aa, aa, aa, aa, aa, aa, aa, aa, aa, aa, aa, aa, aa, aa, aa, (Zjk c)] : List AV)) (by exact if_pos ‹_›)) (cg12 (fun (q1 : Int) (q2 : Int) (q3 : Int) (q4 : Int) (q5 : Int) (q6 : List UInt8) (q7 : List UInt8) (q8 : Int) (q9 : Int) (q10 : List aE) (q11 : List aE) (q12 : List aC) => ([(Zj3 f u), (Zjc f u l), (Zjd f u l), .dead, Zj7, (Zj8 c), Zj9, (Zje f u l), Zjg, .dead, .live (.box 46 [dI q1, dI q2, dI q3, dI q4, dI q5, dS q6, dU q7, dI q8, dI q9, .d (dsl false false (kE false) q10), .d (dsl false false (kE false) q11), .d (dsl false false (kC false) q12)])] : List HS)) (by rfl) (by rfl) (by rfl) (by rfl) (by rfl) (by rfl) (by rfl) (by rfl) (by rfl) (by rfl) (by rfl) (by rfl)) hG) ?_
   exact nJ
  refine cF (dF hq1) ?_
  refine T.skip ?_
  refine eN ⟨(Zjv c), (Zjq f u l c)⟩ ?_
  refine Ends.turn (s' := ⟨(Zjv c), (Zju f u l c)⟩) (fun _ _ hG => Gs.less (s := ⟨(Zjv c), (Zjq f u l c)⟩) (kk2 (kk4 (kk8 (kk16 trivial)))) (kk2 (kk8 ⟨(.inr ⟨rfl, (kk2 (kk4 ⟨(.inr ⟨rfl, rfl, rfl⟩), ⟨.inl rfl, (kk2 ⟨(.inr ⟨rfl, rfl, rfl⟩), ⟨(.inr ⟨rfl, rfl, rfl⟩), trivial⟩⟩)⟩⟩))⟩), trivial⟩)) hG) ?_
  refine Ends.turn (s' := ⟨(Zjl f c), (Zjo f u l c)⟩) (fun _ _ hG => Gs.i2 [0, 1, 2, 3, 4, 5, 6, 7, 8, 21, 10] (bm 30 536871167) (t1 := (Zjl f c)) (t2 := (Zjv c)) (h1 := (Zjo f u l c)) (h2 := (Zju f u l c)) (congrArg (fun (q1 : Int) => ([Zj0, (Zj2 c), pv 4 0, pv 5 0, pv 6 0, pv 8 0, pv 10 0, vI q1, aa, aa, aa, aa, aa, aa, aa, aa, aa, aa, aa, aa, aa, aa, aa, aa, aa, aa, aa, aa, aa, (Zjk c)] : List AV)) (by exact if_neg ‹_›)) (cg12 (fun (q1 : Int) (q2 : Int) (q3 : Int) (q4 : Int) (q5 : Int) (q6 : List UInt8) (q7 : List UInt8) (q8 : Int) (q9 : Int) (q10 : List aE) (q11 : List aE) (q12 : List aC) => ([(Zj3 f u), (Zjc f u l), (Zjd f u l), .dead, Zj7, (Zj8 c), Zj9, (Zje f u l), Zjg, .dead, .live (.box 46 [dI q1, dI q2, dI q3, dI q4, dI q5, dS q6, dU q7, dI q8, dI q9, .d (dsl false false (kE false) q10), .d (dsl false false (kE false) q11), .d (dsl false false (kC false) q12)])] : List HS)) (by rfl) (by rfl) (by rfl) (by rfl) (by rfl) (by rfl) (by rfl) (by rfl) (by rfl) (by rfl) (by rfl) (by rfl)) hG) ?_
  exact nJ
 refine sR [hR 3 rfl rfl (rCa (law_sign f u (tabM (saidL f u l (aW.mk 1000 true reqM))) (saidL f u l (aW.mk 1000 true reqM)) (priC f c) false (preM c) ‹_› ‹_› (by rfl) (by omega) ‹_› ‹_›) Tryz.func16 [0, 1, 2, 7, 11] [(.tmp 35, Zj0), (.tmp 36, vI (priC f c)), (.tmp 37, .tv (.agg (Zjm c)))] 4 5)] ?_
 refine T.seq ?_
 refine tN ⟨(Zjw f c), (Zk0 f u l c)⟩ ?_
 refine T.turn (s' := ⟨(Zjw f c), (Zk2 f u l c)⟩) (fun _ _ hG => Gs.i2 [0, 1, 2, 3, 4, 5, 6, 21, 8, 31, 10, 11, 12] (bm 30 536871423) (h1 := (Zk2 f u l c)) (h2 := (Zk0 f u l c)) (t1 := (Zjw f c)) rfl (cg3 (fun (q1 : List (authn_pair × Bool)) (q2 : Nat) (q3 : List aE) => ([(Zj3 f u), .live (mpK f_authn_pair kBool q1), .live (.box 75 [dB true, dI f, dI u, .own 11 (kE false).sz 0 q2]), .dead, Zj7, (Zj8 c), Zj9, .dead, Zjg, .dead, (Zjn c), .live (arrK 35 (kE false) q3), .live (.box 38 [(Zjy f c), (Zjz f c), Zj4])] : List HS)) (by rfl) (by rfl) (by rfl)) hG) ?_
 refine sR [] ?_
 refine T.block ?_
 refine tN ⟨(Zk3 f c), (Zk2 f u l c)⟩ ?_
 refine T.turn (s' := ⟨(Zk3 f c), [(Zj3 f u), .live (mpK f_authn_pair kBool (tabM (made0 f u l c))), (Zk1 f u l c), .dead, Zj7, (Zj8 c), Zj9, .dead, Zjg, .dead, (Zjn c), .live (arrK 35 (kE false) (made0 f u l c)), .live (.box 38 [(Zjy f c), (Zjz f c), .own 13 (kE false).sz 0 0]), .live (arrK 35 (kE false) ([] : List aE))]⟩) (fun _ _ hG => Gs.absentB 13 12 2 35 (kE false) (Tb := 38) (cs := [(Zjy f c), (Zjz f c), Zj4]) rfl rfl rfl hG) ?_
 refine T.loop (ι := Nat) (fun (k : Nat) => (Zka f u l c k)) (fun (k : Nat) => (k ≤ c.f_Votes.length)) (fun (k : Nat) => c.f_Votes.length - k) (0) (Nat.zero_le _) (fun _ _ hG => Gs.i2 [0, 1, 2, 3, 11, 4, 5, 10, 12, 13, 6] (bm 10 860) (h1 := [(Zj3 f u), .live (mpK f_authn_pair kBool (tabM (madeL f u l c 0))), .live (.box 75 [dB true, dI f, dI u, .own 11 (kE false).sz 0 (madeL f u l c 0).length]), .dead, .live (arrK 35 (kE false) (madeL f u l c 0)), Zj7, (Zj8 c), (Zjn c), .live (.box 38 [(Zjy f c), (Zjz f c), .own 13 (kE false).sz 0 (((madeW c).take 0).map saidE).length]), .live (arrK 35 (kE false) (((madeW c).take 0).map saidE)), Zj9]) (h2 := [(Zj3 f u), .live (mpK f_authn_pair kBool (tabM (made0 f u l c))), (Zk1 f u l c), .dead, .live (arrK 35 (kE false) (made0 f u l c)), Zj7, (Zj8 c), (Zjn c), .live (.box 38 [(Zjy f c), (Zjz f c), .own 13 (kE false).sz 0 0]), .live (arrK 35 (kE false) ([] : List aE)), Zj9]) (t1 := [aa, aa, pv 4 0, pv 5 0, pv 6 0, aa, pv 10 0, aa, pv 12 0, vI 0]) rfl (cg5 (fun (q1 : List (authn_pair × Bool)) (q2 : Nat) (q3 : List aE) (q4 : Nat) (q5 : List aE) => ([(Zj3 f u), .live (mpK f_authn_pair kBool q1), .live (.box 75 [dB true, dI f, dI u, .own 11 (kE false).sz 0 q2]), .dead, .live (arrK 35 (kE false) q3), Zj7, (Zj8 c), (Zjn c), .live (.box 38 [(Zjy f c), (Zjz f c), .own 13 (kE false).sz 0 q4]), .live (arrK 35 (kE false) q5), Zj9] : List HS)) (by rfl) (by rfl) (by rfl) (by rfl) (by rfl)) hG) ?_
 rintro k hk
 show T _ _ (Zka f u l c k) _ _
 replace hk : k ≤ c.f_Votes.length := hk
 have hml := made_len f u l c k
 have htk : (((madeW c).take k).map saidE).length = k := (by rw [List.length_map, List.length_take, made_lenW]; omega)
 refine T.seq ?_
 refine sR [] ?_
 by_cases hq2 : ((k : Nat) : Int) < ((c.f_Votes.length : Nat) : Int)
 ·have hvr := hr.2.2.2 _ (getD_mem (z := z_quaestorlaw13_Vote) (show k < c.f_Votes.length by omega)); have hvs : -9223372036854775808 ≤ (c.f_Votes.getD k z_quaestorlaw13_Vote).f_Signer ∧ (c.f_Votes.getD k z_quaestorlaw13_Vote).f_Signer ≤ 9223372036854775807 := hvr.1; have ht1 := tmod3 (c.f_Votes.getD k z_quaestorlaw13_Vote).f_View; have ht2 := tmod3 (c.f_Votes.getD k z_quaestorlaw13_Vote).f_Seq; have hok3 := few_okM (few_vot c (c.f_Votes.getD k z_quaestorlaw13_Vote))
  refine cT (dT hq2) ?_
  refine T.skip (nT (T.seq ?_))
  refine T.block ?_
  refine sR [hR 3 rfl rfl (q_index false false (k_quaestorlaw13_Vote false) c.f_Votes k (k := .i64) (i := ((k : Nat) : Int)) Tryz.underlying24 iat_68 rfl rfl (by omega) (lt_of rfl) trivial)] ?_
  refine sR [hR 6 rfl rfl (r_bin (u1 := .int .i64 (c.f_Votes.getD k z_quaestorlaw13_Vote).f_View) (u2 := .int .i64 3) (v := .int .i64 (Int.tmod (c.f_Votes.getD k z_quaestorlaw13_Vote).f_View 3)) (b_rem (by omega) rfl) (lt_of rfl) ⟨rfl, trivial⟩),
    hR 7 rfl rfl (r_bin (u1 := .int .i64 c.f_View) (u2 := .int .i64 (Int.tmod (c.f_Votes.getD k z_quaestorlaw13_Vote).f_View 3)) (v := .int .i64 (c.f_View + (Int.tmod (c.f_Votes.getD k z_quaestorlaw13_Vote).f_View 3))) (b_add (by rw [IntKind.wrap_i64]; omega)) (lt_of rfl) trivial),
    hR 12 rfl rfl (r_bin (u1 := .int .i64 (c.f_Votes.getD k z_quaestorlaw13_Vote).f_Seq) (u2 := .int .i64 3) (v := .int .i64 (Int.tmod (c.f_Votes.getD k z_quaestorlaw13_Vote).f_Seq 3)) (b_rem (by omega) rfl) (lt_of rfl) ⟨rfl, trivial⟩),
    hR 13 rfl rfl (r_bin (u1 := .int .i64 c.f_Seq) (u2 := .int .i64 (Int.tmod (c.f_Votes.getD k z_quaestorlaw13_Vote).f_Seq 3)) (v := .int .i64 (c.f_Seq + (Int.tmod (c.f_Votes.getD k z_quaestorlaw13_Vote).f_Seq 3))) (b_add (by rw [IntKind.wrap_i64]; omega)) (lt_of rfl) trivial)] ?_
  refine T.join ⟨(Zkb c k), (Zkh f u l c k)⟩ ?_ ?_
  ·refine sR [] ?_
   by_cases hq3 : (c.f_Votes.getD k z_quaestorlaw13_Vote).f_Other = true
   ·refine cT hq3 ?_
    refine xK [] ?_
    refine eN ⟨(Zkb c k), (Zki f u l c k)⟩ ?_
    refine Ends.turn (s' := ⟨(Zkb c k), (Zkh f u l c k)⟩) (fun _ _ hG => Gs.iI [0, 1, 2, 3, 4, 5, 6, 7, 8, 9, 10, 11, 12] (bm 71 1180591638309597351772) (h2 := (Zki f u l c k)) rfl (congrArg (fun (q1 : List UInt8) => ([(Zj3 f u), (Zk4 f u l c k), (Zk5 f u l c k), .dead, (Zk6 f u l c k), Zj7, (Zj8 c), (Zjn c), (Zk8 f c k), (Zk9 c k), Zj9, (Zkd c k), .live (.box 46 [(Zkc c k), (Zke c k), (Zkf c k), dI 0, dI 0, dS q1, Zj4, dI 0, dI 0, Zj4, Zj4, Zj4])] : List HS)) (by exact if_pos ‹_›)) hG) ?_
    exact nJ
   replace hq3 := Bool.eq_false_iff.2 hq3
   refine cF hq3 ?_
   refine T.skip ?_
   refine eN ⟨(Zkb c k), (Zkj f u l c k)⟩ ?_
   refine Ends.turn (s' := ⟨(Zkb c k), (Zkh f u l c k)⟩) (fun _ _ hG => Gs.iI [0, 1, 2, 3, 4, 5, 6, 7, 8, 9, 10, 11, 12] (bm 71 1180591638309597351772) (h2 := (Zkj f u l c k)) rfl (congrArg (fun (q1 : List UInt8) => ([(Zj3 f u), (Zk4 f u l c k), (Zk5 f u l c k), .dead, (Zk6 f u l c k), Zj7, (Zj8 c), (Zjn c), (Zk8 f c k), (Zk9 c k), Zj9, (Zkd c k), .live (.box 46 [(Zkc c k), (Zke c k), (Zkf c k), dI 0, dI 0, dS q1, Zj4, dI 0, dI 0, Zj4, Zj4, Zj4])] : List HS)) (by exact if_neg (nbB ‹_›))) hG) ?_
   exact nJ
  refine T.join ⟨(Zkk c k), (Zkm f u l c k)⟩ ?_ ?_
  ·refine sR [] ?_
   by_cases hq4 : (c.f_Votes.getD k z_quaestorlaw13_Vote).f_Kind = 5
   ·refine cT (dT hq4) ?_
    refine xK [] ?_
    refine eN (Zkn f u l c k) ?_
    refine Ends.turn (s' := ⟨(Zkk c k), (Zko f u l c k)⟩) (fun _ _ hG => Gs.less (s := (Zkn f u l c k)) ⟨.inl rfl, (kk2 (kk8 (kk32 (kk32 trivial))))⟩ (kk4 (kk8 ⟨(.inr ⟨rfl, (kk2 (kk4 ⟨(.inr ⟨rfl, rfl, rfl⟩), (kk2 ⟨(.inr ⟨rfl, rfl, rfl⟩), ⟨(.inr ⟨rfl, rfl, rfl⟩), ⟨(.inr ⟨rfl, rfl, rfl⟩), trivial⟩⟩⟩)⟩))⟩), trivial⟩)) hG) ?_
    refine Ends.turn (s' := ⟨(Zkk c k), (Zkm f u l c k)⟩) (fun _ _ hG => Gs.iI [0, 1, 2, 3, 4, 5, 6, 7, 8, 9, 10, 11, 12] (bm 75 20070057569788178206556) (h2 := (Zko f u l c k)) rfl (cg12 (fun (q1 : Int) (q2 : Int) (q3 : Int) (q4 : Int) (q5 : Int) (q6 : List UInt8) (q7 : List UInt8) (q8 : Int) (q9 : Int) (q10 : List aE) (q11 : List aE) (q12 : List aC) => ([(Zj3 f u), (Zk4 f u l c k), (Zk5 f u l c k), .dead, (Zk6 f u l c k), Zj7, (Zj8 c), (Zjn c), (Zk8 f c k), (Zk9 c k), Zj9, (Zkd c k), .live (.box 46 [dI q1, dI q2, dI q3, dI q4, dI q5, dS q6, dU q7, dI q8, dI q9, .d (dsl false false (kE false) q10), .d (dsl false false (kE false) q11), .d (dsl false false (kC false) q12)])] : List HS)) (by rfl) (by exact if_pos ‹_›) (by rfl) (by rfl) (by rfl) (by rfl) (by rfl) (by rfl) (by rfl) (by rfl) (by rfl) (by rfl)) hG) ?_
    exact nJ
   refine cF (dF hq4) ?_
   refine T.skip ?_
   refine eN ⟨(Zkk c k), (Zkh f u l c k)⟩ ?_
   refine Ends.turn (s' := ⟨(Zkk c k), (Zkp f u l c k)⟩) (fun _ _ hG => Gs.less (s := ⟨(Zkk c k), (Zkh f u l c k)⟩) ⟨.inl rfl, (kk2 (kk8 (kk32 (kk32 trivial))))⟩ (kk4 (kk8 ⟨(.inr ⟨rfl, (kk2 (kk4 ⟨(.inr ⟨rfl, rfl, rfl⟩), (kk2 ⟨(.inr ⟨rfl, rfl, rfl⟩), ⟨(.inr ⟨rfl, rfl, rfl⟩), ⟨(.inr ⟨rfl, rfl, rfl⟩), trivial⟩⟩⟩)⟩))⟩), trivial⟩)) hG) ?_
   refine Ends.turn (s' := ⟨(Zkk c k), (Zkm f u l c k)⟩) (fun _ _ hG => Gs.iI [0, 1, 2, 3, 4, 5, 6, 7, 8, 9, 10, 11, 12] (bm 75 20070057569788178206556) (h2 := (Zkp f u l c k)) rfl (cg12 (fun (q1 : Int) (q2 : Int) (q3 : Int) (q4 : Int) (q5 : Int) (q6 : List UInt8) (q7 : List UInt8) (q8 : Int) (q9 : Int) (q10 : List aE) (q11 : List aE) (q12 : List aC) => ([(Zj3 f u), (Zk4 f u l c k), (Zk5 f u l c k), .dead, (Zk6 f u l c k), Zj7, (Zj8 c), (Zjn c), (Zk8 f c k), (Zk9 c k), Zj9, (Zkd c k), .live (.box 46 [dI q1, dI q2, dI q3, dI q4, dI q5, dS q6, dU q7, dI q8, dI q9, .d (dsl false false (kE false) q10), .d (dsl false false (kE false) q11), .d (dsl false false (kC false) q12)])] : List HS)) (by rfl) (by exact if_neg ‹_›) (by rfl) (by rfl) (by rfl) (by rfl) (by rfl) (by rfl) (by rfl) (by rfl) (by rfl) (by rfl)) hG) ?_
   exact nJ
  refine xD [[], [0], [], [], [3], [], [5], [5, 6], [], [3, 4, 5, 6, 7, 8], [2, 3, 4, 5, 6, 7, 8, 9], [2, 3, 4, 5, 6, 7, 8, 9, 10], [0, 1, 2, 3, 4, 5, 6, 7, 8, 9, 10, 11], [0, 1, 2, 3, 4, 5, 6, 7, 8, 9, 10, 11, 12], [0, 1, 2, 3, 4, 5, 6, 7, 8, 9, 10, 11, 12, 13]] [hR 10 rfl rfl (rCa (law_said f u (tabM (madeL f u l c k)) (madeL f u l c k) false (aW.mk (c.f_Votes.getD k z_quaestorlaw13_Vote).f_Signer (!(c.f_Votes.getD k z_quaestorlaw13_Vote).f_Unsigned) (votM c (c.f_Votes.getD k z_quaestorlaw13_Vote))) ‹_› ‹_› (by rfl) (by omega) ‹_› ‹_›) Tryz.func26 [0, 1, 2, 4, 13] [(.tmp 78, Zj0), (.tmp 85, .tv (.agg [dI (c.f_Votes.getD k z_quaestorlaw13_Vote).f_Signer, dB (!(c.f_Votes.getD k z_quaestorlaw13_Vote).f_Unsigned), dI (Zkl c k).f_Kind, dI (Zkl c k).f_View, dI (Zkl c k).f_Seq, dI (Zkl c k).f_Client, dI (Zkl c k).f_Stamp, dS (Zkl c k).f_Digest, dU (Zkl c k).f_Data, dI (Zkl c k).f_Result.f_Code, dI (Zkl c k).f_Result.f_Stage, .d (dsl false false (kE false) (Zkl c k).f_Batch), .d (dsl false false (kE false) (Zkl c k).f_Pres), .d (dsl false false (kC false) (Zkl c k).f_Certs)]))] 4 5),
    hR 11 rfl rfl (q_buildSlice 14 35 (kE false) (k_api_Envelope_ok false) [(saidE (aW.mk (c.f_Votes.getD k z_quaestorlaw13_Vote).f_Signer (!(c.f_Votes.getD k z_quaestorlaw13_Vote).f_Unsigned) (votM c (c.f_Votes.getD k z_quaestorlaw13_Vote))))] [⟨0, .tmp 86, .agg [dI (saidE (Zkq c k)).f_Signer, dU (saidE (Zkq c k)).f_Body], 0⟩] (cs := [dI (saidE (Zkq c k)).f_Signer, dU (saidE (Zkq c k)).f_Body]) Tryz.underlying36 iat_35 rfl zero_35 rfl rfl rfl (Nat.le_of_ble_eq_true rfl) (part_cons rfl rfl (Nat.le_of_ble_eq_true rfl) part_ok) (by kernel_rfl) (wk_eq (by kernel_rfl)) (lt_of rfl) trivial),
    hR 12 rfl rfl (q_appendO 9 15 35 32 (kE false) (k_api_Envelope_ok false) (((madeW c).take k).map saidE) [(saidE (aW.mk (c.f_Votes.getD k z_quaestorlaw13_Vote).f_Signer (!(c.f_Votes.getD k z_quaestorlaw13_Vote).f_Unsigned) (votM c (c.f_Votes.getD k z_quaestorlaw13_Vote))))] ((((madeW c).take k).map saidE) ++ [(saidE (aW.mk (c.f_Votes.getD k z_quaestorlaw13_Vote).f_Signer (!(c.f_Votes.getD k z_quaestorlaw13_Vote).f_Unsigned) (votM c (c.f_Votes.getD k z_quaestorlaw13_Vote))))]) (((madeW c).take k).map saidE).length (sy := (.own 14 (kE false).sz 0 [(saidE (Zkq c k))].length)) (rhs := [(14, .live (arrK 35 (kE false) [(saidE (Zkq c k))]))]) elem_36 (by omega) (src_own 14 35 (kE false) [(saidE (aW.mk (c.f_Votes.getD k z_quaestorlaw13_Vote).f_Signer (!(c.f_Votes.getD k z_quaestorlaw13_Vote).f_Unsigned) (votM c (c.f_Votes.getD k z_quaestorlaw13_Vote))))]) (by rw [List.take_length]) (by (simp [maxLen, -List.getD_eq_getElem?_getD] <;> omega)) (by (simp [maxLen, -List.getD_eq_getElem?_getD] <;> omega)) (lt_of rfl) trivial)] (by kernel_rfl) (by kernel_rfl) (by kernel_rfl) (by kernel_rfl) (by kernel_rfl) (by kernel_rfl) ?_
  refine nB ?_
  refine nT ?_
  refine xK [hR 1 rfl rfl (r_bin (u1 := .int .i64 ((k : Nat) : Int)) (u2 := .int .i64 1) (v := .int .i64 ((k + 1 : Nat) : Int)) (b_add (by rw [IntKind.wrap_i64]; omega)) (lt_of rfl) ⟨rfl, trivial⟩)] ?_
  refine nL (k + 1) (show (k + 1) ≤ c.f_Votes.length from (by omega)) (show (c.f_Votes.length - (k + 1) : Nat) < c.f_Votes.length - k from (by omega)) (fun _ _ hG => Gs.i2 [0, 1, 2, 3, 13, 5, 6, 7, 8, 15, 10] (bm 10 860) (h1 := [(Zj3 f u), .live (mpK f_authn_pair kBool (tabM (madeL f u l c (k + 1)))), .live (.box 75 [dB true, dI f, dI u, .own 13 (kE false).sz 0 (madeL f u l c (k + 1)).length]), .dead, .live (arrK 35 (kE false) (madeL f u l c (k + 1))), Zj7, (Zj8 c), (Zjn c), .live (.box 38 [(Zjy f c), (Zjz f c), .own 15 (kE false).sz 0 (((madeW c).take (k + 1)).map saidE).length]), .live (arrK 35 (kE false) (((madeW c).take (k + 1)).map saidE)), Zj9]) (h2 := [(Zj3 f u), .live (mpK f_authn_pair kBool (tabM (saidL f u (madeL f u l c k) (Zkq c k)))), .live (.box 75 [dB true, dI f, dI u, .own 13 (kE false).sz 0 (saidL f u (madeL f u l c k) (Zkq c k)).length]), .dead, .live (arrK 35 (kE false) (saidL f u (madeL f u l c k) (Zkq c k))), Zj7, (Zj8 c), (Zjn c), .live (.box 38 [(Zjy f c), (Zjz f c), .own 15 (kE false).sz 0 ((((madeW c).take k).map saidE) ++ [(saidE (Zkq c k))]).length]), .live (arrK 35 (kE false) ((((madeW c).take k).map saidE) ++ [(saidE (Zkq c k))])), Zj9]) (t1 := (Zkr k)) rfl (by have e1 : ((tabM (madeL f u l c (k + 1))) : List (authn_pair × Bool)) = (tabM (saidL f u (madeL f u l c k) (aW.mk (c.f_Votes.getD k z_quaestorlaw13_Vote).f_Signer (!(c.f_Votes.getD k z_quaestorlaw13_Vote).f_Unsigned) (votM c (c.f_Votes.getD k z_quaestorlaw13_Vote))))) := (by (rw [made_succ (by omega)]; rfl)); have e2 : ((madeL f u l c (k + 1)).length : Nat) = (saidL f u (madeL f u l c k) (aW.mk (c.f_Votes.getD k z_quaestorlaw13_Vote).f_Signer (!(c.f_Votes.getD k z_quaestorlaw13_Vote).f_Unsigned) (votM c (c.f_Votes.getD k z_quaestorlaw13_Vote)))).length := (by (rw [made_succ (by omega)]; rfl)); have e3 : ((madeL f u l c (k + 1)) : List aE) = (saidL f u (madeL f u l c k) (aW.mk (c.f_Votes.getD k z_quaestorlaw13_Vote).f_Signer (!(c.f_Votes.getD k z_quaestorlaw13_Vote).f_Unsigned) (votM c (c.f_Votes.getD k z_quaestorlaw13_Vote)))) := (by (rw [made_succ (by omega)]; rfl)); have e4 : ((((madeW c).take (k + 1)).map saidE).length : Nat) = ((((madeW c).take k).map saidE) ++ [(saidE (aW.mk (c.f_Votes.getD k z_quaestorlaw13_Vote).f_Signer (!(c.f_Votes.getD k z_quaestorlaw13_Vote).f_Unsigned) (votM c (c.f_Votes.getD k z_quaestorlaw13_Vote))))]).length := (by (rw [made_says (by omega)]; rfl)); have e5 : ((((madeW c).take (k + 1)).map saidE) : List aE) = (((madeW c).take k).map saidE) ++ [(saidE (aW.mk (c.f_Votes.getD k z_quaestorlaw13_Vote).f_Signer (!(c.f_Votes.getD k z_quaestorlaw13_Vote).f_Unsigned) (votM c (c.f_Votes.getD k z_quaestorlaw13_Vote))))] := (by (rw [made_says (by omega)]; rfl)); have hE := congr (congr (congr (congr (congrArg (fun (q1 : List (authn_pair × Bool)) (q2 : Nat) (q3 : List aE) (q4 : Nat) (q5 : List aE) => ([(Zj3 f u), .live (mpK f_authn_pair kBool q1), .live (.box 75 [dB true, dI f, dI u, .own 13 (kE false).sz 0 q2]), .dead, .live (arrK 35 (kE false) q3), Zj7, (Zj8 c), (Zjn c), .live (.box 38 [(Zjy f c), (Zjz f c), .own 15 (kE false).sz 0 q4]), .live (arrK 35 (kE false) q5), Zj9] : List HS)) e1) e2) e3) e4) e5; exact hE) hG)
 have hke : k = c.f_Votes.length := (by omega); have htw := made_end (c := c) (k := k) (by omega)
 refine cF (dF hq2) ?_
 refine T.exit ?_
 refine xT ?_
 refine xT ?_
 refine xH ?_
 refine nT ?_
 refine sR [] ?_
 refine T.ret ?_
 exact eX [.c 4 10 38 0 38 [(Zjy f c), (Zjz f c), (Zk7 c k)] (.agg [(Zjy f c), (Zjz f c), (Zk7 c k)])] ⟨⟨rfl, rfl, by kernel_rfl, by kernel_rfl, .inl ⟨3, wide_38, rfl, Nat.le_of_ble_eq_true rfl⟩⟩, trivial⟩ [0, 1, 2, 3, 4, 9] (by have e1 : ((madeC f c).f_Pre.f_Signer : Int) = (saidE (aW.mk (priC f c) true (preM c))).f_Signer := (by rfl); have e2 : ((madeC f c).f_Pre.f_Body : List UInt8) = (saidE (aW.mk (priC f c) true (preM c))).f_Body := (by rfl); have e3 : ((madeC f c).f_Votes.length : Nat) = (((madeW c).take k).map saidE).length := (by (rw [htw]; rfl)); have hE := congr (congr (congrArg (fun (q1 : Int) (q2 : List UInt8) (q3 : Nat) => (.tv (.agg [dI q1, dU q2, .own 9 (kE false).sz 0 q3]) : AV)) e1) e2) e3; exact hE) (ix ⟨⟨rfl, (by have e1 : ((tabM (madeL f u l c k)) : List (authn_pair × Bool)) = (tabM (madeL f u l c c.f_Votes.length)) := (by (rw [hke]; done)); have hE := congrArg (fun (q1 : List (authn_pair × Bool)) => (.live (mpK f_authn_pair kBool q1) : HS)) e1; exact Eq.trans (by kernel_rfl) hE)⟩, ⟨⟨rfl, (by have e1 : ((madeL f u l c k).length : Nat) = (madeL f u l c c.f_Votes.length).length := (by (rw [hke]; done)); have hE := congrArg (fun (q1 : Nat) => (.live (.box 75 [dB true, dI f, dI u, .own 4 (kE false).sz 0 q1]) : HS)) e1; exact Eq.trans (by kernel_rfl) hE)⟩, ⟨⟨rfl, (by have e1 : ((madeL f u l c k) : List aE) = (madeL f u l c c.f_Votes.length) := (by (rw [hke]; done)); have hE := congrArg (fun (q1 : List aE) => (.live (arrK 35 (kE false) q1) : HS)) e1; exact Eq.trans (by kernel_rfl) hE)⟩, ⟨⟨rfl, (by have e1 : ((((madeW c).take k).map saidE) : List aE) = (madeC f c).f_Votes := (by (rw [htw]; rfl)); have hE := congrArg (fun (q1 : List aE) => (.live (arrK 35 (kE false) q1) : HS)) e1; exact Eq.trans (by kernel_rfl) hE)⟩, trivial⟩⟩⟩⟩)
end Go.Proofs.YtalapplihdmenaaGreat.Q
