import Derived.Test.YtalapplihdmenaaGreatC13n33
namespace Go.Proofs.YtalapplihdmenaaGreat.Q
open Go Go.RowKit
set_option linter.unusedVariables false
set_option linter.unusedSimpArgs false
set_option maxRecDepth 100000
set_option maxHeartbeats 4000000
section
variable (x : quaestorlaw03_Size) (c : quaestorlaw13_Case) (k : Nat)
abbrev Zlj : AV := .tv (.agg [dI x.f_F, dI x.f_Clients])
abbrev Zlk : List SV := [dI c.f_View, dI c.f_Seq, dI c.f_Primary, .d (dsl false false (k_quaestorlaw13_Vote false) c.f_Votes)]
abbrev Zll : List SV := [dI (madeC (fOf x.f_F) c).f_Pre.f_Signer, dU (madeC (fOf x.f_F) c).f_Pre.f_Body, .d (dsl false false (kE false) (madeC (fOf x.f_F) c).f_Votes)]
abbrev Zlm : TV := .one (dB true)
abbrev Zln := (madeL (fOf x.f_F) (cOf x.f_Clients) ([] : List aE) c c.f_Votes.length)
abbrev Zlo := (ceE (checkE (fOf x.f_F) (cOf x.f_Clients) (tabM (Zln x c))) (fOf x.f_F) (madeC (fOf x.f_F) c) 4 (2 * (fOf x.f_F) + 1))
abbrev Zlp : List AV := [(Zlj x), .tv (.agg (Zlk c)), pv 0 0, pv 1 0, vB false, pv 6 0, pv 8 0, pv 9 0, vI (Zlo x c), aa, aa, aa, aa, aa, vB (!(decide (bndC c))), aa, aa, aa, aa, aa, aa, aa, aa, aa, aa, aa, aa, aa, aa, vB (decide ((Zlo x c) ≠ 0))]
abbrev Zlq : HS := .live (.box 23 [dI x.f_F, dI x.f_Clients])
abbrev Zlr : HS := .live (.box 26 (Zlk c))
abbrev Zls : HS := .live (.box 98 [dI (3 * (fOf x.f_F) + 1), dI (cOf x.f_Clients), .mref 3])
abbrev Zlt : HS := .live (mpK f_authn_pair kBool (tabM (Zln x c)))
abbrev Zlu : HS := .live (.box 75 [dB true, dI (fOf x.f_F), dI (cOf x.f_Clients), .own 7 (kE false).sz 0 (Zln x c).length])
abbrev Zlv : HS := .live (.box 31 [.ptr 2 0, .ptr 4 0])
abbrev Zlw : HS := .live (arrK 35 (kE false) (Zln x c))
abbrev Zlx : HS := .live (.box 38 (Zll x c))
abbrev Zly := (ceV (checkE (fOf x.f_F) (cOf x.f_Clients) (tabM (Zln x c))) (fOf x.f_F) (madeC (fOf x.f_F) c) 4 (2 * (fOf x.f_F) + 1))
abbrev Zlz : List HS := [(Zlq x), (Zlr c), (Zls x), (Zlt x c), (Zlu x c), .dead, Zlv, (Zlw x c), (Zlx x c), .live (.box 46 [dI (Zly x c).f_Kind, dI (Zly x c).f_View, dI (Zly x c).f_Seq, dI (Zly x c).f_Client, dI (Zly x c).f_Stamp, dS (Zly x c).f_Digest, dU (Zly x c).f_Data, dI (Zly x c).f_Result.f_Code, dI (Zly x c).f_Result.f_Stage, .d (dsl false false (kE false) (Zly x c).f_Batch), .d (dsl false false (kE false) (Zly x c).f_Pres), .d (dsl false false (kC false) (Zly x c).f_Certs)])]
abbrev Zm0 : HS := .live (.box 46 [dI (preM c).f_Kind, dI (preM c).f_View, dI (preM c).f_Seq, dI (preM c).f_Client, dI (preM c).f_Stamp, dS (preM c).f_Digest, dU (preM c).f_Data, dI (preM c).f_Result.f_Code, dI (preM c).f_Result.f_Stage, .d (dsl false false (kE false) (preM c).f_Batch), .d (dsl false false (kE false) (preM c).f_Pres), .d (dsl false false (kC false) (preM c).f_Certs)])
abbrev Zm1 : List HS := [(Zlq x), (Zlr c), (Zls x), (Zlt x c), (Zlu x c), .dead, Zlv, (Zlw x c), (Zlx x c), (Zm0 c)]
abbrev Zm2 : List HS := [(Zlq x), (Zlr c), (Zls x), (Zlt x c), (Zlu x c), .dead, Zlv, (Zlw x c), (Zlx x c), (Zm0 c), .live (arrK 3 (kInt .i64) ([] : List Int))]
abbrev Zm3 := (sgn (madeC (fOf x.f_F) c).f_Votes k)
abbrev Zm4 : St := ⟨[aa, aa, pv 0 0, pv 1 0, aa, pv 6 0, pv 8 0, pv 9 0, aa, ownV 10 (kInt .i64) 0 (Zm3 x c k).length, vI ((k : Nat) : Int)], [(Zlq x), (Zlr c), (Zls x), (Zlt x c), (Zlu x c), .dead, Zlv, (Zlw x c), (Zlx x c), (Zm0 c), .live (arrK 3 (kInt .i64) (Zm3 x c k))]⟩
abbrev Zm5 : List AV := [aa, aa, pv 0 0, pv 1 0, aa, pv 6 0, pv 8 0, pv 9 0, aa, ownV 10 (kInt .i64) 0 (sgn (madeC (fOf x.f_F) c).f_Votes 0).length, vI 0]
abbrev Zm6 : List HS := [(Zlq x), (Zlr c), (Zls x), (Zlt x c), (Zlu x c), .dead, Zlv, (Zlw x c), (Zlx x c), (Zm0 c), .live (arrK 3 (kInt .i64) (sgn (madeC (fOf x.f_F) c).f_Votes 0))]
abbrev Zm7 : SV := .d (.val (.slice none 0 0))
abbrev Zm8 : SV := dI ((madeC (fOf x.f_F) c).f_Votes.getD k zE).f_Signer
abbrev Zm9 : AV := vI ((k + 1 : Nat) : Int)
abbrev Zma : List HS := [(Zlq x), (Zlr c), (Zls x), (Zlt x c), (Zlu x c), .dead, Zlv, (Zlw x c), (Zlx x c), (Zm0 c), .live (arrK 3 (kInt .i64) (sgn (madeC (fOf x.f_F) c).f_Votes (k + 1)))]
end
theorem law_CertMany (x : quaestorlaw03_Size) (c : quaestorlaw13_Case) (hr : rngC c) : Holds Tryz.prog 5 ⟨[.tv (.agg [dI x.f_F, dI x.f_Clients]), .tv (.agg [dI c.f_View, dI c.f_Seq, dI c.f_Primary, .d (dsl false false (k_quaestorlaw13_Vote false) c.f_Votes)])], [], vB true, []⟩ := by
 refine Holds.of Tryz.func5 rfl (N := 111) Tryz.ntmps5 rfl fun w0 B0 S0 U0 => ?_
 show T _ (mkBase 111 0 w0 S0 U0 B0) ⟨[(Zlj x), .tv (.agg (Zlk c))], []⟩ _ _
 have hfx := fOf_ok x.f_F
 have hux := cOf_ok x.f_Clients
 have hml := made_len (fOf x.f_F) (cOf x.f_Clients) [] c c.f_Votes.length
 simp only [List.length_nil] at hml
 refine sR [] ?_
 refine T.seq ?_
 refine sR [hR 1 rfl rfl (rCa (law_bounds c ) Tryz.func6 [] [(.tmp 12, .tv (.agg (Zlk c)))] 0 0)] ?_
 by_cases hq1 : bndC c
 ·have hbd := hq1; have hve : okEs (madeC (fOf x.f_F) c).f_Votes := made_okE hr hbd; have hpi : -9223372036854775808 ≤ (madeC (fOf x.f_F) c).f_Pre.f_Signer ∧ (madeC (fOf x.f_F) c).f_Pre.f_Signer ≤ 9223372036854775807 := pri_ok hfx hr hbd; have hpb := made_body (fOf x.f_F) c; obtain ⟨hb1, hb2, hb3, hb4, hb5⟩ := hbd
  refine cF (cn (dT hq1)) ?_
  refine T.skip (nT ?_)
  refine sR [hR 1 rfl rfl (rCa (law_begun x ) Tryz.func8 [2, 3, 4, 5] [(.tmp 16, (Zlj x))] 0 4)] ?_
  refine sR [hR 2 rfl rfl (rCa (law_made (fOf x.f_F) (cOf x.f_Clients) ([] : List (authn_pair × Bool)) ([] : List aE) c ‹_› ‹_› (by rfl) (by (simp [maxLen, -List.getD_eq_getElem?_getD] <;> omega)) ‹_› ‹_›) Tryz.func9 [2, 3, 4, 5, 7] [(.tmp 18, .tv (.agg [.ptr 2 0, .ptr 4 0])), (.tmp 19, .tv (.agg (Zlk c)))] 4 5)] ?_
  refine sR [hR 3 rfl rfl (rCa (cert_Committed (fOf x.f_F) (cOf x.f_Clients) (tabM (madeL (fOf x.f_F) (cOf x.f_Clients) ([] : List aE) c c.f_Votes.length)) false (madeC (fOf x.f_F) c) ‹_› ‹_› ‹_› ‹_› ‹_›) Tryz.func12 [2, 3] [(.tmp 23, pv 2 0), (.tmp 24, .tv (.agg (Zll x c)))] 2 2)] ?_
  refine T.seq ?_
  refine sR [] ?_
  by_cases hq2 : (ceE (checkE (fOf x.f_F) (cOf x.f_Clients) (tabM (madeL (fOf x.f_F) (cOf x.f_Clients) ([] : List aE) c c.f_Votes.length))) (fOf x.f_F) (madeC (fOf x.f_F) c) 4 (2 * (fOf x.f_F) + 1)) ≠ 0
  ·refine cT (dT hq2) ?_
   refine sR [hR 0 rfl rfl (rCa (law_awake  ) Tryz.func7 [] [] 0 0)] ?_
   refine T.ret (rT ?_)
   exact eRt 4 (Zlm) [] rfl trivial
  have hmn := many hfx hq2; have hok := few_okM (few_com c); obtain ⟨ok1, ok2, ok3, ok4, ok5, ok6⟩ := hok; have hbk := few_encB (few_com c); have hvl := hve.1
  refine cF (dF hq2) ?_
  refine T.skip (nT ?_)
  refine tN ⟨(Zlp x c), (Zlz x c)⟩ ?_
  refine T.turn (s' := ⟨(Zlp x c), (Zm1 x c)⟩) (fun _ _ hG => Gs.i2 [0, 1, 2, 3, 4, 16, 6, 7, 8, 9] (bm 30 536887807) (h1 := (Zm1 x c)) (h2 := (Zlz x c)) (t1 := (Zlp x c)) rfl (by have e1 : ((preM c).f_Kind : Int) = (ceV (checkE (fOf x.f_F) (cOf x.f_Clients) (tabM (madeL (fOf x.f_F) (cOf x.f_Clients) ([] : List aE) c c.f_Votes.length))) (fOf x.f_F) (madeC (fOf x.f_F) c) 4 (2 * (fOf x.f_F) + 1)).f_Kind := (by (rw [hmn.2.2.2])); have e2 : ((preM c).f_View : Int) = (ceV (checkE (fOf x.f_F) (cOf x.f_Clients) (tabM (madeL (fOf x.f_F) (cOf x.f_Clients) ([] : List aE) c c.f_Votes.length))) (fOf x.f_F) (madeC (fOf x.f_F) c) 4 (2 * (fOf x.f_F) + 1)).f_View := (by (rw [hmn.2.2.2])); have e3 : ((preM c).f_Seq : Int) = (ceV (checkE (fOf x.f_F) (cOf x.f_Clients) (tabM (madeL (fOf x.f_F) (cOf x.f_Clients) ([] : List aE) c c.f_Votes.length))) (fOf x.f_F) (madeC (fOf x.f_F) c) 4 (2 * (fOf x.f_F) + 1)).f_Seq := (by (rw [hmn.2.2.2])); have e4 : ((preM c).f_Client : Int) = (ceV (checkE (fOf x.f_F) (cOf x.f_Clients) (tabM (madeL (fOf x.f_F) (cOf x.f_Clients) ([] : List aE) c c.f_Votes.length))) (fOf x.f_F) (madeC (fOf x.f_F) c) 4 (2 * (fOf x.f_F) + 1)).f_Client := (by (rw [hmn.2.2.2])); have e5 : ((preM c).f_Stamp : Int) = (ceV (checkE (fOf x.f_F) (cOf x.f_Clients) (tabM (madeL (fOf x.f_F) (cOf x.f_Clients) ([] : List aE) c c.f_Votes.length))) (fOf x.f_F) (madeC (fOf x.f_F) c) 4 (2 * (fOf x.f_F) + 1)).f_Stamp := (by (rw [hmn.2.2.2])); have e6 : ((preM c).f_Digest : List UInt8) = (ceV (checkE (fOf x.f_F) (cOf x.f_Clients) (tabM (madeL (fOf x.f_F) (cOf x.f_Clients) ([] : List aE) c c.f_Votes.length))) (fOf x.f_F) (madeC (fOf x.f_F) c) 4 (2 * (fOf x.f_F) + 1)).f_Digest := (by (rw [hmn.2.2.2])); have e7 : ((preM c).f_Data : List UInt8) = (ceV (checkE (fOf x.f_F) (cOf x.f_Clients) (tabM (madeL (fOf x.f_F) (cOf x.f_Clients) ([] : List aE) c c.f_Votes.length))) (fOf x.f_F) (madeC (fOf x.f_F) c) 4 (2 * (fOf x.f_F) + 1)).f_Data := (by (rw [hmn.2.2.2])); have e8 : ((preM c).f_Result.f_Code : Int) = (ceV (checkE (fOf x.f_F) (cOf x.f_Clients) (tabM (madeL (fOf x.f_F) (cOf x.f_Clients) ([] : List aE) c c.f_Votes.length))) (fOf x.f_F) (madeC (fOf x.f_F) c) 4 (2 * (fOf x.f_F) + 1)).f_Result.f_Code := (by (rw [hmn.2.2.2])); have e9 : ((preM c).f_Result.f_Stage : Int) = (ceV (checkE (fOf x.f_F) (cOf x.f_Clients) (tabM (madeL (fOf x.f_F) (cOf x.f_Clients) ([] : List aE) c c.f_Votes.length))) (fOf x.f_F) (madeC (fOf x.f_F) c) 4 (2 * (fOf x.f_F) + 1)).f_Result.f_Stage := (by (rw [hmn.2.2.2])); have e10 : ((preM c).f_Batch : List aE) = (ceV (checkE (fOf x.f_F) (cOf x.f_Clients) (tabM (madeL (fOf x.f_F) (cOf x.f_Clients) ([] : List aE) c c.f_Votes.length))) (fOf x.f_F) (madeC (fOf x.f_F) c) 4 (2 * (fOf x.f_F) + 1)).f_Batch := (by (rw [hmn.2.2.2])); have e11 : ((preM c).f_Pres : List aE) = (ceV (checkE (fOf x.f_F) (cOf x.f_Clients) (tabM (madeL (fOf x.f_F) (cOf x.f_Clients) ([] : List aE) c c.f_Votes.length))) (fOf x.f_F) (madeC (fOf x.f_F) c) 4 (2 * (fOf x.f_F) + 1)).f_Pres := (by (rw [hmn.2.2.2])); have e12 : ((preM c).f_Certs : List aC) = (ceV (checkE (fOf x.f_F) (cOf x.f_Clients) (tabM (madeL (fOf x.f_F) (cOf x.f_Clients) ([] : List aE) c c.f_Votes.length))) (fOf x.f_F) (madeC (fOf x.f_F) c) 4 (2 * (fOf x.f_F) + 1)).f_Certs := (by (rw [hmn.2.2.2])); have hE := congr (congr (congr (congr (congr (congr (congr (congr (congr (congr (congr (congrArg (fun (q1 : Int) (q2 : Int) (q3 : Int) (q4 : Int) (q5 : Int) (q6 : List UInt8) (q7 : List UInt8) (q8 : Int) (q9 : Int) (q10 : List aE) (q11 : List aE) (q12 : List aC) => ([(Zlq x), (Zlr c), (Zls x), (Zlt x c), (Zlu x c), .dead, Zlv, (Zlw x c), (Zlx x c), .live (.box 46 [dI q1, dI q2, dI q3, dI q4, dI q5, dS q6, dU q7, dI q8, dI q9, .d (dsl false false (kE false) q10), .d (dsl false false (kE false) q11), .d (dsl false false (kC false) q12)])] : List HS)) e1) e2) e3) e4) e5) e6) e7) e8) e9) e10) e11) e12; exact hE) hG) ?_
  refine sR [] ?_
  refine T.seq ?_
  refine sR [] ?_
  refine T.block ?_
  refine tN ⟨[(Zlj x), .tv (.agg (Zlk c)), pv 0 0, pv 1 0, vB false, pv 6 0, pv 8 0, pv 9 0, vI (Zlo x c), dv (.slice none 0 0), vI 0, aa, aa, aa, vB (!(decide (bndC c))), aa, aa, aa, aa, aa, aa, aa, aa, aa, aa, aa, aa, aa, aa, vB (decide ((Zlo x c) ≠ 0))], (Zm1 x c)⟩ ?_
  refine T.turn (s' := ⟨[(Zlj x), .tv (.agg (Zlk c)), pv 0 0, pv 1 0, vB false, pv 6 0, pv 8 0, pv 9 0, vI (Zlo x c), ownV 10 (kInt .i64) 0 0, vI 0, aa, aa, aa, vB (!(decide (bndC c))), aa, aa, aa, aa, aa, aa, aa, aa, aa, aa, aa, aa, aa, aa, vB (decide ((Zlo x c) ≠ 0))], (Zm2 x c)⟩) (fun _ _ hG => Gs.absent 10 9 3 (kInt .i64) rfl rfl hG) ?_
  refine T.loop (ι := Nat) (fun (k : Nat) => (Zm4 x c k)) (fun (k : Nat) => (k ≤ (madeC (fOf x.f_F) c).f_Votes.length)) (fun (k : Nat) => (madeC (fOf x.f_F) c).f_Votes.length - k) (0) (Nat.zero_le _) (fun _ _ hG => Gs.i2 [0, 1, 2, 3, 4, 17, 6, 7, 8, 9, 10] (bm 11 1772) (t1 := (Zm5 x c)) (t2 := [aa, aa, pv 0 0, pv 1 0, aa, pv 6 0, pv 8 0, pv 9 0, aa, ownV 10 (kInt .i64) 0 0, vI 0]) (h1 := (Zm6 x c)) (h2 := (Zm2 x c)) (congrArg (fun (q1 : Nat) => ([aa, aa, pv 0 0, pv 1 0, aa, pv 6 0, pv 8 0, pv 9 0, aa, ownV 10 (kInt .i64) 0 q1, vI 0] : List AV)) (by rfl)) (congrArg (fun (q1 : List Int) => ([(Zlq x), (Zlr c), (Zls x), (Zlt x c), (Zlu x c), .dead, Zlv, (Zlw x c), (Zlx x c), (Zm0 c), .live (arrK 3 (kInt .i64) q1)] : List HS)) (by rfl)) hG) ?_
  rintro k hk
  show T _ _ (Zm4 x c k) _ _
  replace hk : k ≤ (madeC (fOf x.f_F) c).f_Votes.length := hk
  have hsl := sgn_len hk
  refine T.seq ?_
  refine sR [] ?_
  by_cases hq3 : ((k : Nat) : Int) < (((madeC (fOf x.f_F) c).f_Votes.length : Nat) : Int)
  ·have hck := hmn.1 k (by omega); have hvk := okEs_get hve (k := k) (by omega); have hvk1 := hvk.1.1; have hvk2 := hvk.1.2
   refine cT (dT hq3) ?_
   refine T.skip (nT (T.seq ?_))
   refine T.block ?_
   refine sR [hR 7 rfl rfl (rCn (ref12_Encode false (aM.mk 4 (preM c).f_View (preM c).f_Seq 0 0 (preM c).f_Digest ([] : List UInt8) (api_Result.mk 0 0) ([] : List aE) ([] : List aE) ([] : List aC)) (Nat.le_trans ok1 (by decide)) (Nat.le_trans ok2 (by decide)) (Nat.le_trans ok3 (by decide)) (Nat.le_trans ok4 (by decide)) (Nat.le_trans ok5 (by decide)) (Nat.le_trans ok6 (by decide))) Tryz.func20 [] [(.tmp 44, .tv (.agg [dI 4, dI (preM c).f_View, dI (preM c).f_Seq, dI 0, dI 0, dS (preM c).f_Digest, Zm7, dI 0, dI 0, Zm7, Zm7, Zm7]))] 0 0 ⟨⟨.inl ⟨rfl, rfl⟩, ⟨.inl ⟨rfl, rfl⟩, ⟨.inl ⟨rfl, rfl⟩, ⟨.inl ⟨rfl, rfl⟩, ⟨.inl ⟨rfl, rfl⟩, ⟨.inl ⟨rfl, rfl⟩, ⟨.inr (.inr ⟨rfl, rfl, rfl⟩), ⟨.inl ⟨rfl, rfl⟩, ⟨.inl ⟨rfl, rfl⟩, ⟨.inr (.inr ⟨rfl, rfl, rfl⟩), ⟨.inr (.inr ⟨rfl, rfl, rfl⟩), ⟨.inr (.inr ⟨rfl, rfl, rfl⟩), trivial⟩⟩⟩⟩⟩⟩⟩⟩⟩⟩⟩⟩, trivial⟩ trivial)] ?_
   refine T.seq ?_
   refine sD [[], [0], [], [2], [], [2, 3, 4], [2, 3, 4, 5], [2, 3, 4, 5, 6], [], [2, 3, 4, 5, 6, 7, 8], [0, 1, 2, 3, 4, 5, 6, 7, 8, 9], [0, 1, 2, 3, 4, 5, 6, 7, 8, 9, 10]] [hR 5 rfl rfl (q_index false false (kE false) (madeC (fOf x.f_F) c).f_Votes k (k := .i64) (i := ((k : Nat) : Int)) Tryz.underlying36 iat_35 rfl rfl (by omega) (lt_of rfl) trivial),
     hR 10 rfl rfl (rCa (authn_Check (fOf x.f_F) (cOf x.f_Clients) (tabM (madeL (fOf x.f_F) (cOf x.f_Clients) ([] : List aE) c c.f_Votes.length)) false (aE.mk ((madeC (fOf x.f_F) c).f_Votes.getD k zE).f_Signer (encB (aM.mk 4 (preM c).f_View (preM c).f_Seq 0 0 (preM c).f_Digest ([] : List UInt8) (api_Result.mk 0 0) ([] : List aE) ([] : List aE) ([] : List aC)))) ‹_› ‹_› (by (simp [maxLen, -List.getD_eq_getElem?_getD] <;> omega))) Tryz.func21 [2, 3] [(.tmp 47, pv 2 0), (.tmp 55, .tv (.agg [(Zm8 x c k), dU (encB (aM.mk 4 (preM c).f_View (preM c).f_Seq 0 0 (preM c).f_Digest ([] : List UInt8) (api_Result.mk 0 0) ([] : List aE) ([] : List aE) ([] : List aC)))]))] 2 2)] ?_
   by_cases hq4 : (checkE (fOf x.f_F) (cOf x.f_Clients) (tabM (madeL (fOf x.f_F) (cOf x.f_Clients) ([] : List aE) c c.f_Votes.length)) (aE.mk ((madeC (fOf x.f_F) c).f_Votes.getD k zE).f_Signer (encB (aM.mk 4 (preM c).f_View (preM c).f_Seq 0 0 (preM c).f_Digest ([] : List UInt8) (api_Result.mk 0 0) ([] : List aE) ([] : List aE) ([] : List aC))))) ≠ 0
   ·exact absurd hck hq4
   refine cF (dF hq4) ?_
   refine T.skip (nT ?_)
   refine xR [hR 4 rfl rfl (q_index false false (kE false) (madeC (fOf x.f_F) c).f_Votes k (k := .i64) (i := ((k : Nat) : Int)) Tryz.underlying36 iat_35 rfl rfl (by omega) (lt_of rfl) trivial),
     hR 7 rfl rfl (q_buildSlice 11 3 (kInt .i64) (kInt_ok .i64) [((madeC (fOf x.f_F) c).f_Votes.getD k zE).f_Signer] [⟨0, .tmp 64, .one ((Zm8 x c k)), 0⟩] (cs := [(Zm8 x c k)]) Tryz.underlying55 iat_3 rfl zero_3 rfl rfl rfl (Nat.le_of_ble_eq_true rfl) (part_cons rfl rfl (Nat.le_of_ble_eq_true rfl) part_ok) (by kernel_rfl) (wk_eq (by kernel_rfl)) (lt_of rfl) trivial),
     hR 8 rfl rfl (q_appendO 10 12 3 8 (kInt .i64) (kInt_ok .i64) (sgn (madeC (fOf x.f_F) c).f_Votes k) [((madeC (fOf x.f_F) c).f_Votes.getD k zE).f_Signer] ((sgn (madeC (fOf x.f_F) c).f_Votes k) ++ [((madeC (fOf x.f_F) c).f_Votes.getD k zE).f_Signer]) (sgn (madeC (fOf x.f_F) c).f_Votes k).length (sy := (.own 11 (kInt .i64).sz 0 [((madeC (fOf x.f_F) c).f_Votes.getD k zE).f_Signer].length)) (rhs := [(11, .live (arrK 3 (kInt .i64) [((madeC (fOf x.f_F) c).f_Votes.getD k zE).f_Signer]))]) elem_55 (by omega) (src_own 11 3 (kInt .i64) [((madeC (fOf x.f_F) c).f_Votes.getD k zE).f_Signer]) (by rw [List.take_length]) (by (simp [maxLen, -List.getD_eq_getElem?_getD] <;> omega)) (by (simp [maxLen, -List.getD_eq_getElem?_getD] <;> omega)) (lt_of rfl) trivial)] (by kernel_rfl) (by kernel_rfl) ?_
   refine nB ?_
   refine nT ?_
   refine xK [hR 1 rfl rfl (r_bin (u1 := .int .i64 ((k : Nat) : Int)) (u2 := .int .i64 1) (v := .int .i64 ((k + 1 : Nat) : Int)) (b_add (by rw [IntKind.wrap_i64]; omega)) (lt_of rfl) ⟨rfl, trivial⟩)] ?_
   refine nL (k + 1) (show (k + 1) ≤ (madeC (fOf x.f_F) c).f_Votes.length from (by omega)) (show ((madeC (fOf x.f_F) c).f_Votes.length - (k + 1) : Nat) < (madeC (fOf x.f_F) c).f_Votes.length - k from (by omega)) (fun _ _ hG => Gs.i2 [0, 1, 2, 3, 4, 19, 6, 7, 8, 9, 12] (bm 11 1772) (t1 := [aa, aa, pv 0 0, pv 1 0, aa, pv 6 0, pv 8 0, pv 9 0, aa, ownV 12 (kInt .i64) 0 (sgn (madeC (fOf x.f_F) c).f_Votes (k + 1)).length, (Zm9 k)]) (t2 := [aa, aa, pv 0 0, pv 1 0, aa, pv 6 0, pv 8 0, pv 9 0, aa, ownV 12 (kInt .i64) 0 ((Zm3 x c k) ++ [((madeC (fOf x.f_F) c).f_Votes.getD k zE).f_Signer]).length, (Zm9 k)]) (h1 := (Zma x c k)) (h2 := [(Zlq x), (Zlr c), (Zls x), (Zlt x c), (Zlu x c), .dead, Zlv, (Zlw x c), (Zlx x c), (Zm0 c), .live (arrK 3 (kInt .i64) ((Zm3 x c k) ++ [((madeC (fOf x.f_F) c).f_Votes.getD k zE).f_Signer]))]) (by have e1 : ((sgn (madeC (fOf x.f_F) c).f_Votes (k + 1)).length : Nat) = ((sgn (madeC (fOf x.f_F) c).f_Votes k) ++ [((madeC (fOf x.f_F) c).f_Votes.getD k zE).f_Signer]).length := (by (rw [sgn_succ (by omega)])); have hE := congrArg (fun (q1 : Nat) => ([aa, aa, pv 0 0, pv 1 0, aa, pv 6 0, pv 8 0, pv 9 0, aa, ownV 12 (kInt .i64) 0 q1, (Zm9 k)] : List AV)) e1; exact hE) (by have e1 : ((sgn (madeC (fOf x.f_F) c).f_Votes (k + 1)) : List Int) = (sgn (madeC (fOf x.f_F) c).f_Votes k) ++ [((madeC (fOf x.f_F) c).f_Votes.getD k zE).f_Signer] := (by (rw [sgn_succ (by omega)])); have hE := congrArg (fun (q1 : List Int) => ([(Zlq x), (Zlr c), (Zls x), (Zlt x c), (Zlu x c), .dead, Zlv, (Zlw x c), (Zlx x c), (Zm0 c), .live (arrK 3 (kInt .i64) q1)] : List HS)) e1; exact hE) hG)
  have hke : k = (madeC (fOf x.f_F) c).f_Votes.length := (by omega)
  refine cF (dF hq3) ?_
  refine T.exit ?_
  refine xT ?_
  refine xT ?_
  refine xH ?_
  refine nT ?_
  by_cases hq5 : ((cntR (fOf x.f_F) (sgn (madeC (fOf x.f_F) c).f_Votes k) : Nat) : Int) = (((sgn (madeC (fOf x.f_F) c).f_Votes k).length : Nat) : Int)
  ·by_cases hq6 : ((cntR (fOf x.f_F) (sgn (madeC (fOf x.f_F) c).f_Votes k) : Nat) : Int) ≥ (2 * (fOf x.f_F) + 1)
   ·by_cases hq7 : ((cntR (fOf x.f_F) (sgn (madeC (fOf x.f_F) c).f_Votes k) : Nat) : Int) > (fOf x.f_F)
    ·by_cases hq8 : (preM c).f_View = c.f_View
     ·by_cases hq9 : (preM c).f_Seq = c.f_Seq
      ·refine sD [[], [0], [], [0, 1, 2], [], [4], [0, 1, 2, 3, 4, 5], [0, 1, 2, 3, 4, 5, 6], [0, 1, 2, 3, 4, 5, 6, 7], [0, 1, 2, 3, 4, 5, 6, 7, 8], [0, 1, 2, 3, 4, 5, 6, 7], [0, 1, 2, 3, 4, 5, 6, 7, 8, 9, 10], [0, 1, 2, 3, 4, 5, 6, 7], [0, 1, 2, 3, 4, 5, 6, 7, 12], [0, 1, 2, 3, 4, 5, 6, 7, 8, 9, 10, 11, 12, 13], [0, 1, 2, 3, 4, 5, 6, 7, 8, 9, 10, 11, 12, 13, 14], [0, 1, 2, 3, 4, 5, 6, 7, 8, 9, 10, 11, 12, 13, 14, 15], [0, 1, 2, 3, 4, 5, 6, 7, 8, 9, 10, 11, 12, 13, 14, 15, 16], [0, 1, 2, 3, 4, 5, 6, 7, 8, 9, 10, 11, 12, 13, 14, 15, 16, 17], [0, 1, 2, 3, 4, 5, 6, 7, 8, 9, 10, 11, 12, 13, 14, 15, 16, 17, 18], [0, 1, 2, 3, 4, 5, 6, 7, 8, 9, 10, 11, 12, 13, 14, 15, 16, 17], [0, 1, 2, 3, 4, 5, 6, 7, 8, 9, 10, 11, 12, 13, 14, 15, 16, 17, 18, 19, 20], [0, 1, 2, 3, 4, 5, 6, 7, 8, 9, 10, 11, 12, 13, 14, 15, 16, 17], [0, 1, 2, 3, 4, 5, 6, 7, 8, 9, 10, 11, 12, 13, 14, 15, 16, 17, 22], [0, 1, 2, 3, 4, 5, 6, 7, 8, 9, 10, 11, 12, 13, 14, 15, 16, 17, 18, 19, 20, 21, 22, 23], [0, 1, 2, 3, 4, 5, 6, 7, 8, 9, 10, 11, 12, 13, 14, 15, 16, 17, 18, 19, 20, 21, 22, 23, 24], [0, 1, 2, 3, 4, 5, 6, 7, 8, 9, 10, 11, 12, 13, 14, 15, 16, 17, 18, 19, 20, 21, 22, 23, 24, 25], [0, 1, 2, 3, 4, 5, 6, 7, 8, 9, 10, 11, 12, 13, 14, 15, 16, 17, 18, 19, 20, 21, 22, 23, 24, 25, 26], [0, 1, 2, 3, 4, 5, 6, 7, 8, 9, 10, 11, 12, 13, 14, 15, 16, 17, 18, 19, 20, 21, 22, 23, 24, 25, 26, 27], [0, 1, 2, 3, 4, 5, 6, 7, 8, 9, 10, 11, 12, 13, 14, 15, 16, 17, 18, 19, 20, 21, 22, 23, 24, 25, 26, 27, 28], [0, 1, 2, 3, 4, 5, 6, 7, 8, 9, 10, 11, 12, 13, 14, 15, 16, 17, 18, 19, 20, 21, 22, 23, 24, 25, 26, 27], [0, 1, 2, 3, 4, 5, 6, 7, 8, 9, 10, 11, 12, 13, 14, 15, 16, 17, 18, 19, 20, 21, 22, 23, 24, 25, 26, 27, 30], [0, 1, 2, 3, 4, 5, 6, 7, 8, 9, 10, 11, 12, 13, 14, 15, 16, 17, 18, 19, 20, 21, 22, 23, 24, 25, 26, 27, 28, 29, 30, 31], [0, 1, 2, 3, 4, 5, 6, 7, 8, 9, 10, 11, 12, 13, 14, 15, 16, 17, 18, 19, 20, 21, 22, 23, 24, 25, 26, 27, 28, 29, 30, 31, 32], [0, 1, 2, 3, 4, 5, 6, 7, 8, 9, 10, 11, 12, 13, 14, 15, 16, 17, 18, 19, 20, 21, 22, 23, 24, 25, 26, 27, 28, 29, 30, 31, 32, 33], [0, 1, 2, 3, 4, 5, 6, 7, 8, 9, 10, 11, 12, 13, 14, 15, 16, 17, 18, 19, 20, 21, 22, 23, 24, 25, 26, 27, 28, 29, 30, 31, 32, 33, 34], [0, 1, 2, 3, 4, 5, 6, 7, 8, 9, 10, 11, 12, 13, 14, 15, 16, 17, 18, 19, 20, 21, 22, 23, 24, 25, 26, 27, 28, 29, 30, 31, 32, 33, 34, 35], [0, 1, 2, 3, 4, 5, 6, 7, 8, 9, 10, 11, 12, 13, 14, 15, 16, 17, 18, 19, 20, 21, 22, 23, 24, 25, 26, 27, 28, 29, 30, 31, 32, 33, 34], [0, 1, 2, 3, 4, 5, 6, 7, 8, 9, 10, 11, 12, 13, 14, 15, 16, 17, 18, 19, 20, 21, 22, 23, 24, 25, 26, 27, 28, 29, 30, 31, 32, 33, 34, 37], [0, 1, 2, 3, 4, 5, 6, 7, 8, 9, 10, 11, 12, 13, 14, 15, 16, 17, 18, 19, 20, 21, 22, 23, 24, 25, 26, 27, 28, 29, 30, 31, 32, 33, 34, 35, 36, 37, 38], [0, 1, 2, 3, 4, 5, 6, 7, 8, 9, 10, 11, 12, 13, 14, 15, 16, 17, 18, 19, 20, 21, 22, 23, 24, 25, 26, 27, 28, 29, 30, 31, 32, 33, 34, 35, 36, 37, 38, 39], [0, 1, 2, 3, 4, 5, 6, 7, 8, 9, 10, 11, 12, 13, 14, 15, 16, 17, 18, 19, 20, 21, 22, 23, 24, 25, 26, 27, 28, 29, 30, 31, 32, 33, 34, 35, 36, 37, 38, 39, 40], [0, 1, 2, 3, 4, 5, 6, 7, 8, 9, 10, 11, 12, 13, 14, 15, 16, 17, 18, 19, 20, 21, 22, 23, 24, 25, 26, 27, 28, 29, 30, 31, 32, 33, 34, 35, 36, 37, 38, 39, 40, 41], [0, 1, 2, 3, 4, 5, 6, 7, 8, 9, 10, 11, 12, 13, 14, 15, 16, 17, 18, 19, 20, 21, 22, 23, 24, 25, 26, 27, 28, 29, 30, 31, 32, 33, 34, 35, 36, 37, 38, 39, 40, 41, 42], [0, 1, 2, 3, 4, 5, 6, 7, 8, 9, 10, 11, 12, 13, 14, 15, 16, 17, 18, 19, 20, 21, 22, 23, 24, 25, 26, 27, 28, 29, 30, 31, 32, 33, 34, 35, 36, 37, 38, 39, 40, 41, 42, 43]] [hR 3 rfl rfl (r_call (authn_Count (fOf x.f_F) (cOf x.f_Clients) (tabM (madeL (fOf x.f_F) (cOf x.f_Clients) ([] : List aE) c c.f_Votes.length)) true false (sgn (madeC (fOf x.f_F) c).f_Votes k) ‹_› ‹_› (by omega)) Tryz.func18 rfl (by decide) [2, 3] [10] (l := [(.tmp 68, pv 2 0), (.tmp 69, ownV 10 (kInt .i64) 0 (Zm3 x c k).length)]) [(10, .live (arrK 3 (kInt .i64) (Zm3 x c k)))] rfl 2 2 rfl rfl rfl rfl rfl rfl rfl rfl rfl ⟨.inl ⟨rfl, rfl⟩, ⟨.inr (.inl ⟨rfl, (fun h => by cases h), rfl, rfl, by simp, 3, (sgn (madeC (fOf x.f_F) c).f_Votes k).length, elOf (kInt .i64) (sgn (madeC (fOf x.f_F) c).f_Votes k), List.Mem.head _, (by exact Nat.le_of_eq (Nat.zero_add _)), fun i j => by rw [Nat.zero_add]⟩), trivial⟩⟩ rfl (by intro b hb; simp only [List.mem_cons, List.not_mem_nil, or_false] at hb; rcases hb with rfl; exact ⟨_, List.Mem.head _⟩) (.inr ⟨trivial, (And.intro (And.intro trivial (And.intro trivial (And.intro trivial trivial))) (And.intro (mp_ntH kBool_nt) trivial))⟩) (lt_of rfl) trivial),
         hY 8 (dT hq5),
         hY 9 (dT hq5),
         hY 10 (dT hq5),
         hS 11 (oY rfl rfl rfl rfl (lt_of rfl) (dT hq5) (r_call (authn_Count (fOf x.f_F) (cOf x.f_Clients) (tabM (madeL (fOf x.f_F) (cOf x.f_Clients) ([] : List aE) c c.f_Votes.length)) true false (sgn (madeC (fOf x.f_F) c).f_Votes k) ‹_› ‹_› (by omega)) Tryz.func18 rfl (by decide) [2, 3] [10] (l := [(.tmp 76, pv 2 0), (.tmp 77, ownV 10 (kInt .i64) 0 (Zm3 x c k).length)]) [(10, .live (arrK 3 (kInt .i64) (Zm3 x c k)))] rfl 2 2 rfl rfl rfl rfl rfl rfl rfl rfl rfl ⟨.inl ⟨rfl, rfl⟩, ⟨.inr (.inl ⟨rfl, (fun h => by cases h), rfl, rfl, by simp, 3, (sgn (madeC (fOf x.f_F) c).f_Votes k).length, elOf (kInt .i64) (sgn (madeC (fOf x.f_F) c).f_Votes k), List.Mem.head _, (by exact Nat.le_of_eq (Nat.zero_add _)), fun i j => by rw [Nat.zero_add]⟩), trivial⟩⟩ rfl (by intro b hb; simp only [List.mem_cons, List.not_mem_nil, or_false] at hb; rcases hb with rfl; exact ⟨_, List.Mem.head _⟩) (.inr ⟨trivial, (And.intro (And.intro trivial (And.intro trivial (And.intro trivial trivial))) (And.intro (mp_ntH kBool_nt) trivial))⟩) (lt_of rfl) (by exact trivial))),
         hY 12 (dT hq5),
         hY 13 (dT hq5),
         hS 14 (oY rfl rfl rfl rfl (lt_of rfl) (dT hq5) (rCa (authn_Quorum (fOf x.f_F) (cOf x.f_Clients) (tabM (madeL (fOf x.f_F) (cOf x.f_Clients) ([] : List aE) c c.f_Votes.length)) ‹_› ‹_›) Tryz.func22 [2, 3] [(.tmp 80, pv 2 0)] 2 2)),
         hY 15 (dT hq5),
         hP 16 (dT hq5),
         hY 18 (dT hq6),
         hY 19 (dT hq6),
         hY 20 (dT hq6),
         hS 21 (oY rfl rfl rfl rfl (lt_of rfl) (dT hq6) (r_call (authn_Count (fOf x.f_F) (cOf x.f_Clients) (tabM (madeL (fOf x.f_F) (cOf x.f_Clients) ([] : List aE) c c.f_Votes.length)) true false (sgn (madeC (fOf x.f_F) c).f_Votes k) ‹_› ‹_› (by omega)) Tryz.func18 rfl (by decide) [2, 3] [10] (l := [(.tmp 86, pv 2 0), (.tmp 87, ownV 10 (kInt .i64) 0 (Zm3 x c k).length)]) [(10, .live (arrK 3 (kInt .i64) (Zm3 x c k)))] rfl 2 2 rfl rfl rfl rfl rfl rfl rfl rfl rfl ⟨.inl ⟨rfl, rfl⟩, ⟨.inr (.inl ⟨rfl, (fun h => by cases h), rfl, rfl, by simp, 3, (sgn (madeC (fOf x.f_F) c).f_Votes k).length, elOf (kInt .i64) (sgn (madeC (fOf x.f_F) c).f_Votes k), List.Mem.head _, (by exact Nat.le_of_eq (Nat.zero_add _)), fun i j => by rw [Nat.zero_add]⟩), trivial⟩⟩ rfl (by intro b hb; simp only [List.mem_cons, List.not_mem_nil, or_false] at hb; rcases hb with rfl; exact ⟨_, List.Mem.head _⟩) (.inr ⟨trivial, (And.intro (And.intro trivial (And.intro trivial (And.intro trivial trivial))) (And.intro (mp_ntH kBool_nt) trivial))⟩) (lt_of rfl) (by exact trivial))),
         hY 22 (dT hq6),
         hY 23 (dT hq6),
         hS 24 (oY rfl rfl rfl rfl (lt_of rfl) (dT hq6) (rCa (authn_F (fOf x.f_F) (cOf x.f_Clients) (tabM (madeL (fOf x.f_F) (cOf x.f_Clients) ([] : List aE) c c.f_Votes.length)) ‹_› ‹_›) Tryz.func19 [2, 3] [(.tmp 90, pv 2 0)] 2 2)),
         hY 25 (dT hq6),
         hP 26 (dT hq6),
         hY 28 (dT hq7),
         hY 29 (dT hq7),
         hY 30 (dT hq7),
         hY 31 (dT hq7),
         hY 32 (dT hq7),
         hP 33 (dT hq7),
         hY 35 (dT hq8),
         hY 36 (dT hq8),
         hY 37 (dT hq8),
         hY 38 (dT hq8),
         hY 39 (dT hq8),
         hP 40 (dT hq8),
         hS 42 (oY rfl rfl rfl rfl (lt_of rfl) (dT hq9) (rCa (law_awake  ) Tryz.func7 [] [] 0 0)),
         hP 43 (dT hq9)] ?_
       refine T.ret ?_
       exact eRt 4 (Zlm) [] rfl trivial
      exact absurd (by rfl) hq9
     exact absurd (by rfl) hq8
    exact absurd (by (have h8 := hmn.2.1; have h7 := hmn.2.2.1; have h6 := sgn_len (Nat.le_refl (madeC (fOf x.f_F) c).f_Votes.length); subst hke; omega)) hq7
   exact absurd (by (have h8 := hmn.2.1; have h7 := hmn.2.2.1; have h6 := sgn_len (Nat.le_refl (madeC (fOf x.f_F) c).f_Votes.length); subst hke; omega)) hq6
  exact absurd (by (have h8 := hmn.2.1; have h7 := hmn.2.2.1; have h6 := sgn_len (Nat.le_refl (madeC (fOf x.f_F) c).f_Votes.length); subst hke; omega)) hq5
 refine cT (cn (dF hq1)) ?_
 refine sR [hR 0 rfl rfl (rCa (law_awake  ) Tryz.func7 [] [] 0 0)] ?_
 refine T.ret (rT ?_)
 exact eRt 4 (Zlm) [] rfl trivial
end Go.Proofs.YtalapplihdmenaaGreat.Q
