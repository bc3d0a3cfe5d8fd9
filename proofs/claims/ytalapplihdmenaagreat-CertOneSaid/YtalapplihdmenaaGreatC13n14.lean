import Derived.Test.YtalapplihdmenaaGreatC13n13
namespace Go.Proofs.YtalapplihdmenaaGreat.Q
open Go Go.RowKit
set_option linter.unusedVariables false
set_option linter.unusedSimpArgs false
set_option maxRecDepth 100000
set_option maxHeartbeats 4000000
section
variable (tm : Bool) (m : aM) (k : Nat)
abbrev Z4a : List SV := [dI m.f_Kind, dI m.f_View, dI m.f_Seq, dI m.f_Client, dI m.f_Stamp, dS m.f_Digest, .d (dsl tm false kU8 m.f_Data), dI m.f_Result.f_Code, dI m.f_Result.f_Stage, .d (dsl tm false (kE tm) m.f_Batch), .d (dsl tm false (kE tm) m.f_Pres), .d (dsl tm false (kC tm) m.f_Certs)]
abbrev Z4b : HS := .live (.box 46 (Z4a tm m))
abbrev Z4c : St := ⟨[.tv (.agg (Z4a tm m)), pv 0 0, dv (.slice none 0 0), aa, aa, aa, aa, aa, aa, vB (decide ((chkM m) ≠ 0))], [(Z4b tm m)]⟩
abbrev Z4d : List AV := [aa, pv 0 0, aa, pv 1 0, aa, ownV 2 kU8 0 (encJ m 1).length]
abbrev Z4e : HS := .live (.box 88 [dB (hasM m.f_Kind).f_View, dB (hasM m.f_Kind).f_Seq, dB (hasM m.f_Kind).f_Client, dB (hasM m.f_Kind).f_Digest, dB (hasM m.f_Kind).f_Data, dB (hasM m.f_Kind).f_Result, dB (hasM m.f_Kind).f_Batch, dB (hasM m.f_Kind).f_Pres, dB (hasM m.f_Kind).f_Certs])
abbrev Z4f : List HS := [(Z4b tm m), (Z4e m), .live (arrK 5 kU8 (encJ m 1))]
abbrev Z4g : List AV := [aa, pv 0 0, aa, pv 1 0, aa, ownV 2 kU8 0 (encJ m 0).length]
abbrev Z4h : List HS := [(Z4b tm m), (Z4e m), .live (arrK 5 kU8 (encJ m 0))]
abbrev Z4i : List AV := [aa, pv 0 0, aa, pv 1 0, aa, ownV 2 kU8 0 (encJ m 2).length]
abbrev Z4j : List HS := [(Z4b tm m), (Z4e m), .live (arrK 5 kU8 (encJ m 2))]
abbrev Z4k : List AV := [aa, pv 0 0, aa, pv 1 0, aa, ownV 2 kU8 0 (encJ m 3).length]
abbrev Z4l : List HS := [(Z4b tm m), (Z4e m), .live (arrK 5 kU8 (encJ m 3))]
abbrev Z4m : AV := ownV 4 kU8 0 ((encJ m 2) ++ intB m.f_Client ++ intB m.f_Stamp).length
abbrev Z4n : List AV := [aa, pv 0 0, aa, pv 1 0, aa, ownV 2 kU8 0 (encJ m 4).length]
abbrev Z4o : List HS := [(Z4b tm m), (Z4e m), .live (arrK 5 kU8 (encJ m 4))]
abbrev Z4p : List AV := [aa, pv 0 0, aa, pv 1 0, aa, ownV 2 kU8 0 (encJ m 5).length]
abbrev Z4q : List HS := [(Z4b tm m), (Z4e m), .live (arrK 5 kU8 (encJ m 5))]
abbrev Z4r : List AV := [aa, pv 0 0, aa, pv 1 0, aa, ownV 2 kU8 0 (encJ m 6).length]
abbrev Z4s : List HS := [(Z4b tm m), (Z4e m), .live (arrK 5 kU8 (encJ m 6))]
abbrev Z4t : AV := ownV 4 kU8 0 ((encJ m 5) ++ intB m.f_Result.f_Code ++ intB m.f_Result.f_Stage).length
abbrev Z4u : List AV := [aa, pv 0 0, aa, pv 1 0, aa, ownV 2 kU8 0 (encJ m 7).length]
abbrev Z4v : List HS := [(Z4b tm m), (Z4e m), .live (arrK 5 kU8 (encJ m 7))]
abbrev Z4w : List AV := [aa, pv 0 0, aa, pv 1 0, aa, ownV 2 kU8 0 (encJ m 8).length]
abbrev Z4x : List HS := [(Z4b tm m), (Z4e m), .live (arrK 5 kU8 (encJ m 8))]
abbrev Z4y : List AV := [aa, pv 0 0, aa, pv 1 0, aa, ownV 2 kU8 0 (encJ m 9).length]
abbrev Z4z : List HS := [(Z4b tm m), (Z4e m), .live (arrK 5 kU8 (encJ m 9))]
abbrev Z50 : AV := ownV 2 kU8 0 ((encJ m 8) ++ cntB ((m.f_Certs.length : Nat) : Int) ++ crtB m.f_Certs k).length
abbrev Z51 : HS := .live (arrK 5 kU8 ((encJ m 8) ++ cntB ((m.f_Certs.length : Nat) : Int) ++ crtB m.f_Certs k))
abbrev Z52 : St := ⟨[aa, pv 0 0, aa, pv 1 0, aa, (Z50 m k), vI ((k : Nat) : Int)], [(Z4b tm m), (Z4e m), (Z51 m k)]⟩
abbrev Z53 : List HS := [(Z4b tm m), (Z4e m), .live (arrK 5 kU8 ((encJ m 8) ++ cntB ((m.f_Certs.length : Nat) : Int) ++ crtB m.f_Certs 0))]
abbrev Z54 : AV := vI ((k + 1 : Nat) : Int)
abbrev Z55 : List HS := [(Z4b tm m), (Z4e m), .live (arrK 5 kU8 ((encJ m 8) ++ cntB ((m.f_Certs.length : Nat) : Int) ++ crtB m.f_Certs (k + 1)))]
abbrev Z56 : List AV := [aa, pv 0 0, ownV 2 kU8 0 (encJ m 9).length, pv 1 0, aa, ownV 2 kU8 0 (encJ m 9).length]
end
theorem ref12_Encode (tm : Bool) (m : aM) (hl : (encJ m 9).length ≤ 1000000000) (hq : m.f_Batch.length ≤ 9223372036854775807) (hr : m.f_Pres.length ≤ 9223372036854775807) (hc : m.f_Certs.length ≤ 9223372036854775807) (hd : m.f_Data.length ≤ 9223372036854775807) (hg : m.f_Digest.length ≤ 9223372036854775807) : Holds Tryz.prog 20 ⟨[.tv (.agg [dI m.f_Kind, dI m.f_View, dI m.f_Seq, dI m.f_Client, dI m.f_Stamp, dS m.f_Digest, .d (dsl tm false kU8 m.f_Data), dI m.f_Result.f_Code, dI m.f_Result.f_Stage, .d (dsl tm false (kE tm) m.f_Batch), .d (dsl tm false (kE tm) m.f_Pres), .d (dsl tm false (kC tm) m.f_Certs)])], [], slV false false kU8 (encB m), []⟩ := by
 refine Holds.of Tryz.func20 rfl (N := 106) Tryz.ntmps20 rfl fun w0 B0 S0 U0 => ?_
 show T _ (mkBase 106 0 w0 S0 U0 B0) ⟨[.tv (.agg (Z4a tm m))], []⟩ _ _
 have hi1 := int_len m.f_Client
 have hi2 := int_len m.f_Result.f_Code
 have hi0 := int_len m.f_Kind
 refine sR [] ?_
 refine T.seq ?_
 refine sR [hR 1 rfl rfl (rCa (ref12_Check tm m (by omega) (by omega) (by omega) (by omega) (by omega)) Tryz.func43 [] [(.tmp 7, .tv (.agg (Z4a tm m)))] 0 0)] ?_
 by_cases hq1 : (chkM m) ≠ 0
 ·refine cT (dT hq1) ?_
  refine sR [] ?_
  refine T.ret (rT ?_)
  refine eN (Z4c tm m) ?_
  refine Ends.turn (s' := ⟨[.tv (.agg (Z4a tm m)), pv 0 0, slV false false kU8 ([] : List UInt8), aa, aa, aa, aa, aa, aa, vB (decide ((chkM m) ≠ 0))], [(Z4b tm m)]⟩) (fun _ _ hG => Gs.less (s := (Z4c tm m)) (kk2 ⟨(.inr ⟨rfl, rfl, rfl⟩), ⟨.inl rfl, (kk2 (kk4 trivial))⟩⟩) ⟨.inl rfl, trivial⟩ hG) ?_
  exact eRt 2 (.one (dU ([] : List UInt8))) [] (congrArg (fun (q1 : List UInt8) => (slV false false kU8 q1 : AV)) (by exact (if_neg (fun h9 => by have h8 := chk0.2 h9; contradiction)))) trivial
 have hwl := chk0.1 (Classical.not_not.1 hq1); have hcl0 := cnt_len ((m.f_Certs.length : Nat) : Int)
 refine cF (dF hq1) ?_
 refine T.skip (nT ?_)
 refine sR [hR 2 rfl rfl (rCa (ref12_fields m.f_Kind ) Tryz.func44 [] [(.tmp 12, vI m.f_Kind)] 0 0)] ?_
 refine sR [hR 2 rfl rfl (rCn (ref01_Int false false ([] : List UInt8) m.f_Kind (by decide)) Tryz.func45 [2] [(.const (.slice none 0 0), dv (.slice none 0 0)), (.tmp 17, vI m.f_Kind)] 0 1 ⟨.inr (.inr ⟨rfl, rfl, rfl⟩), ⟨.inl ⟨rfl, rfl⟩, trivial⟩⟩ ⟨rfl, trivial⟩)] ?_
 refine T.join ⟨(Z4d m), (Z4f tm m)⟩ ?_ ?_
 ·refine tN ⟨[.tv (.agg (Z4a tm m)), pv 0 0, dv (.slice none 0 0), pv 1 0, aa, ownV 2 kU8 0 (([] : List UInt8) ++ intB m.f_Kind).length, aa, aa, aa, vB (decide ((chkM m) ≠ 0))], [(Z4b tm m), (Z4e m), .live (arrK 5 kU8 (([] : List UInt8) ++ intB m.f_Kind))]⟩ ?_
  refine T.turn (s' := ⟨(Z4g m), (Z4h tm m)⟩) (fun _ _ hG => Gs.iI [0, 1, 2] (bm 6 42) (t2 := [aa, pv 0 0, aa, pv 1 0, aa, ownV 2 kU8 0 (([] : List UInt8) ++ intB m.f_Kind).length]) (h2 := [(Z4b tm m), (Z4e m), .live (arrK 5 kU8 (([] : List UInt8) ++ intB m.f_Kind))]) (congrArg (fun (q1 : Nat) => ([aa, pv 0 0, aa, pv 1 0, aa, ownV 2 kU8 0 q1] : List AV)) (by rfl)) (congrArg (fun (q1 : List UInt8) => ([(Z4b tm m), (Z4e m), .live (arrK 5 kU8 q1)] : List HS)) (by rfl)) hG) ?_
  refine sR [] ?_
  by_cases hq2 : (hasM m.f_Kind).f_View = true
  ·have hbt : bitH (hasM m.f_Kind) 0 = true := hq2; have hst : encJ m 1 = encJ m 0 ++ intB m.f_View := (enc_yes (j := 0) (i := 0) rfl hbt); have hrm := enc_room (m := m) (j := 0) (i := 0) rfl hbt (by decide); simp only [fldM, List.length_append, int_len, bytes_len] at hrm
   refine cT hq2 ?_
   refine xK [hR 3 rfl rfl (r_call (ref01_Int true false (encJ m 0) m.f_View (by omega)) Tryz.func45 rfl (by decide) [3] [2] (l := [(.tmp 21, ownV 2 kU8 0 (encJ m 0).length), (.tmp 23, vI m.f_View)]) [(2, .live (arrK 5 kU8 (encJ m 0)))] rfl 0 1 rfl rfl rfl rfl rfl rfl rfl rfl rfl ⟨.inr (.inl ⟨rfl, (fun h => by cases h), rfl, rfl, by simp, 5, (encJ m 0).length, elOf kU8 (encJ m 0), List.Mem.head _, (by exact Nat.le_of_eq (Nat.zero_add _)), fun i j => by rw [Nat.zero_add]⟩), ⟨.inl ⟨rfl, rfl⟩, trivial⟩⟩ rfl (by intro b hb; simp only [List.mem_cons, List.not_mem_nil, or_false] at hb; rcases hb with rfl; exact ⟨_, List.Mem.head _⟩) (.inr ⟨trivial, (And.intro (arr_nt kU8_nt) trivial)⟩) (lt_of rfl) trivial)] ?_
   refine eN ⟨[aa, pv 0 0, aa, pv 1 0, aa, ownV 3 kU8 0 ((encJ m 0) ++ intB m.f_View).length, aa, aa, aa, aa, aa, aa, aa, aa, aa, aa, aa, aa, aa, aa, vB (hasM m.f_Kind).f_View], [(Z4b tm m), (Z4e m), .live (arrK 5 kU8 (encJ m 0)), .live (arrK 5 kU8 ((encJ m 0) ++ intB m.f_View))]⟩ ?_
   refine Ends.turn (s' := ⟨(Z4d m), (Z4f tm m)⟩) (fun _ _ hG => Gs.i2 [0, 1, 3] (bm 6 42) (t1 := [aa, pv 0 0, aa, pv 1 0, aa, ownV 3 kU8 0 (encJ m 1).length]) (t2 := [aa, pv 0 0, aa, pv 1 0, aa, ownV 3 kU8 0 ((encJ m 0) ++ intB m.f_View).length]) (h1 := (Z4f tm m)) (h2 := [(Z4b tm m), (Z4e m), .live (arrK 5 kU8 ((encJ m 0) ++ intB m.f_View))]) (by have e1 : ((encJ m 1).length : Nat) = ((encJ m 0) ++ intB m.f_View).length := (by (rw [hst]; done)); have hE := congrArg (fun (q1 : Nat) => ([aa, pv 0 0, aa, pv 1 0, aa, ownV 3 kU8 0 q1] : List AV)) e1; exact hE) (by have e1 : ((encJ m 1) : List UInt8) = (encJ m 0) ++ intB m.f_View := (by (rw [hst]; done)); have hE := congrArg (fun (q1 : List UInt8) => ([(Z4b tm m), (Z4e m), .live (arrK 5 kU8 q1)] : List HS)) e1; exact hE) hG) ?_
   exact nJ
  have hbt : ¬ bitH (hasM m.f_Kind) 0 = true := hq2; have hst : encJ m 1 = encJ m 0 := enc_no (j := 0) hbt
  replace hq2 := Bool.eq_false_iff.2 hq2
  refine cF hq2 ?_
  refine T.skip ?_
  refine eN ⟨[aa, pv 0 0, aa, pv 1 0, aa, ownV 2 kU8 0 (encJ m 0).length, aa, aa, aa, aa, aa, aa, aa, aa, aa, aa, aa, aa, aa, aa, vB (hasM m.f_Kind).f_View], (Z4h tm m)⟩ ?_
  refine Ends.turn (s' := ⟨(Z4d m), (Z4f tm m)⟩) (fun _ _ hG => Gs.iI [0, 1, 2] (bm 6 42) (t2 := (Z4g m)) (h2 := (Z4h tm m)) (by have e1 : ((encJ m 1).length : Nat) = (encJ m 0).length := (by (rw [hst]; done)); have hE := congrArg (fun (q1 : Nat) => ([aa, pv 0 0, aa, pv 1 0, aa, ownV 2 kU8 0 q1] : List AV)) e1; exact hE) (by have e1 : ((encJ m 1) : List UInt8) = (encJ m 0) := (by (rw [hst]; done)); have hE := congrArg (fun (q1 : List UInt8) => ([(Z4b tm m), (Z4e m), .live (arrK 5 kU8 q1)] : List HS)) e1; exact hE) hG) ?_
  exact nJ
 refine T.join ⟨(Z4i m), (Z4j tm m)⟩ ?_ ?_
 ·refine sR [] ?_
  by_cases hq3 : (hasM m.f_Kind).f_Seq = true
  ·have hbt : bitH (hasM m.f_Kind) 1 = true := hq3; have hst : encJ m 2 = encJ m 1 ++ intB m.f_Seq := (enc_yes (j := 1) (i := 1) rfl hbt); have hrm := enc_room (m := m) (j := 1) (i := 1) rfl hbt (by decide); simp only [fldM, List.length_append, int_len, bytes_len] at hrm
   refine cT hq3 ?_
   refine xK [hR 3 rfl rfl (r_call (ref01_Int true false (encJ m 1) m.f_Seq (by omega)) Tryz.func45 rfl (by decide) [3] [2] (l := [(.tmp 27, ownV 2 kU8 0 (encJ m 1).length), (.tmp 29, vI m.f_Seq)]) [(2, .live (arrK 5 kU8 (encJ m 1)))] rfl 0 1 rfl rfl rfl rfl rfl rfl rfl rfl rfl ⟨.inr (.inl ⟨rfl, (fun h => by cases h), rfl, rfl, by simp, 5, (encJ m 1).length, elOf kU8 (encJ m 1), List.Mem.head _, (by exact Nat.le_of_eq (Nat.zero_add _)), fun i j => by rw [Nat.zero_add]⟩), ⟨.inl ⟨rfl, rfl⟩, trivial⟩⟩ rfl (by intro b hb; simp only [List.mem_cons, List.not_mem_nil, or_false] at hb; rcases hb with rfl; exact ⟨_, List.Mem.head _⟩) (.inr ⟨trivial, (And.intro (arr_nt kU8_nt) trivial)⟩) (lt_of rfl) trivial)] ?_
   refine eN ⟨[aa, pv 0 0, aa, pv 1 0, aa, ownV 3 kU8 0 ((encJ m 1) ++ intB m.f_Seq).length, aa, aa, aa, aa, aa, aa, aa, aa, aa, aa, aa, aa, aa, aa, aa, aa, aa, aa, aa, aa, vB (hasM m.f_Kind).f_Seq], [(Z4b tm m), (Z4e m), .live (arrK 5 kU8 (encJ m 1)), .live (arrK 5 kU8 ((encJ m 1) ++ intB m.f_Seq))]⟩ ?_
   refine Ends.turn (s' := ⟨(Z4i m), (Z4j tm m)⟩) (fun _ _ hG => Gs.i2 [0, 1, 3] (bm 6 42) (t1 := [aa, pv 0 0, aa, pv 1 0, aa, ownV 3 kU8 0 (encJ m 2).length]) (t2 := [aa, pv 0 0, aa, pv 1 0, aa, ownV 3 kU8 0 ((encJ m 1) ++ intB m.f_Seq).length]) (h1 := (Z4j tm m)) (h2 := [(Z4b tm m), (Z4e m), .live (arrK 5 kU8 ((encJ m 1) ++ intB m.f_Seq))]) (by have e1 : ((encJ m 2).length : Nat) = ((encJ m 1) ++ intB m.f_Seq).length := (by (rw [hst]; done)); have hE := congrArg (fun (q1 : Nat) => ([aa, pv 0 0, aa, pv 1 0, aa, ownV 3 kU8 0 q1] : List AV)) e1; exact hE) (by have e1 : ((encJ m 2) : List UInt8) = (encJ m 1) ++ intB m.f_Seq := (by (rw [hst]; done)); have hE := congrArg (fun (q1 : List UInt8) => ([(Z4b tm m), (Z4e m), .live (arrK 5 kU8 q1)] : List HS)) e1; exact hE) hG) ?_
   exact nJ
  have hbt : ¬ bitH (hasM m.f_Kind) 1 = true := hq3; have hst : encJ m 2 = encJ m 1 := enc_no (j := 1) hbt
  replace hq3 := Bool.eq_false_iff.2 hq3
  refine cF hq3 ?_
  refine T.skip ?_
  refine eN ⟨[aa, pv 0 0, aa, pv 1 0, aa, ownV 2 kU8 0 (encJ m 1).length, aa, aa, aa, aa, aa, aa, aa, aa, aa, aa, aa, aa, aa, aa, aa, aa, aa, aa, aa, aa, vB (hasM m.f_Kind).f_Seq], (Z4f tm m)⟩ ?_
  refine Ends.turn (s' := ⟨(Z4i m), (Z4j tm m)⟩) (fun _ _ hG => Gs.iI [0, 1, 2] (bm 6 42) (t2 := (Z4d m)) (h2 := (Z4f tm m)) (by have e1 : ((encJ m 2).length : Nat) = (encJ m 1).length := (by (rw [hst]; done)); have hE := congrArg (fun (q1 : Nat) => ([aa, pv 0 0, aa, pv 1 0, aa, ownV 2 kU8 0 q1] : List AV)) e1; exact hE) (by have e1 : ((encJ m 2) : List UInt8) = (encJ m 1) := (by (rw [hst]; done)); have hE := congrArg (fun (q1 : List UInt8) => ([(Z4b tm m), (Z4e m), .live (arrK 5 kU8 q1)] : List HS)) e1; exact hE) hG) ?_
  exact nJ
 refine T.join ⟨(Z4k m), (Z4l tm m)⟩ ?_ ?_
 ·refine sR [] ?_
  by_cases hq4 : (hasM m.f_Kind).f_Client = true
  ·have hbt : bitH (hasM m.f_Kind) 2 = true := hq4; have hst : encJ m 3 = encJ m 2 ++ intB m.f_Client ++ intB m.f_Stamp := (enc_yes (j := 2) (i := 2) rfl hbt).trans (List.append_assoc ..).symm; have hrm := enc_room (m := m) (j := 2) (i := 2) rfl hbt (by decide); simp only [fldM, List.length_append, int_len, bytes_len] at hrm
   refine cT hq4 ?_
   refine xD [[], [], [1], [0, 1, 2], [], [4], [0, 1, 2, 3, 4, 5], [0, 1, 2, 3, 4, 5, 6]] [hR 3 rfl rfl (r_call (ref01_Int true false (encJ m 2) m.f_Client (by omega)) Tryz.func45 rfl (by decide) [3] [2] (l := [(.tmp 33, ownV 2 kU8 0 (encJ m 2).length), (.tmp 35, vI m.f_Client)]) [(2, .live (arrK 5 kU8 (encJ m 2)))] rfl 0 1 rfl rfl rfl rfl rfl rfl rfl rfl rfl ⟨.inr (.inl ⟨rfl, (fun h => by cases h), rfl, rfl, by simp, 5, (encJ m 2).length, elOf kU8 (encJ m 2), List.Mem.head _, (by exact Nat.le_of_eq (Nat.zero_add _)), fun i j => by rw [Nat.zero_add]⟩), ⟨.inl ⟨rfl, rfl⟩, trivial⟩⟩ rfl (by intro b hb; simp only [List.mem_cons, List.not_mem_nil, or_false] at hb; rcases hb with rfl; exact ⟨_, List.Mem.head _⟩) (.inr ⟨trivial, (And.intro (arr_nt kU8_nt) trivial)⟩) (lt_of rfl) trivial),
     hR 6 rfl rfl (r_call (ref01_Int true false ((encJ m 2) ++ intB m.f_Client) m.f_Stamp (by (simp only [List.length_append, List.length_singleton, maxLen]; omega))) Tryz.func45 rfl (by decide) [4] [3] (l := [(.tmp 36, ownV 3 kU8 0 ((encJ m 2) ++ intB m.f_Client).length), (.tmp 38, vI m.f_Stamp)]) [(3, .live (arrK 5 kU8 ((encJ m 2) ++ intB m.f_Client)))] rfl 0 1 rfl rfl rfl rfl rfl rfl rfl rfl rfl ⟨.inr (.inl ⟨rfl, (fun h => by cases h), rfl, rfl, by simp, 5, ((encJ m 2) ++ intB m.f_Client).length, elOf kU8 ((encJ m 2) ++ intB m.f_Client), List.Mem.head _, (by exact Nat.le_of_eq (Nat.zero_add _)), fun i j => by rw [Nat.zero_add]⟩), ⟨.inl ⟨rfl, rfl⟩, trivial⟩⟩ rfl (by intro b hb; simp only [List.mem_cons, List.not_mem_nil, or_false] at hb; rcases hb with rfl; exact ⟨_, List.Mem.head _⟩) (.inr ⟨trivial, (And.intro (arr_nt kU8_nt) trivial)⟩) (lt_of rfl) trivial)] (by kernel_rfl) (by kernel_rfl) (by kernel_rfl) (by kernel_rfl) (by kernel_rfl) (by kernel_rfl) ?_
   refine eN ⟨[aa, pv 0 0, aa, pv 1 0, aa, (Z4m m), aa, aa, aa, aa, aa, aa, aa, aa, aa, aa, aa, aa, aa, aa, aa, aa, aa, aa, aa, aa, aa, aa, aa, aa, aa, aa, vB (hasM m.f_Kind).f_Client], [(Z4b tm m), (Z4e m), .live (arrK 5 kU8 (encJ m 2)), .live (arrK 5 kU8 ((encJ m 2) ++ intB m.f_Client)), .live (arrK 5 kU8 ((encJ m 2) ++ intB m.f_Client ++ intB m.f_Stamp))]⟩ ?_
   refine Ends.turn (s' := ⟨(Z4k m), (Z4l tm m)⟩) (fun _ _ hG => Gs.i2 [0, 1, 4] (bm 6 42) (t1 := [aa, pv 0 0, aa, pv 1 0, aa, ownV 4 kU8 0 (encJ m 3).length]) (t2 := [aa, pv 0 0, aa, pv 1 0, aa, (Z4m m)]) (h1 := (Z4l tm m)) (h2 := [(Z4b tm m), (Z4e m), .live (arrK 5 kU8 ((encJ m 2) ++ intB m.f_Client ++ intB m.f_Stamp))]) (by have e1 : ((encJ m 3).length : Nat) = ((encJ m 2) ++ intB m.f_Client ++ intB m.f_Stamp).length := (by (rw [hst]; done)); have hE := congrArg (fun (q1 : Nat) => ([aa, pv 0 0, aa, pv 1 0, aa, ownV 4 kU8 0 q1] : List AV)) e1; exact hE) (by have e1 : ((encJ m 3) : List UInt8) = (encJ m 2) ++ intB m.f_Client ++ intB m.f_Stamp := (by (rw [hst]; done)); have hE := congrArg (fun (q1 : List UInt8) => ([(Z4b tm m), (Z4e m), .live (arrK 5 kU8 q1)] : List HS)) e1; exact hE) hG) ?_
   exact nJ
  have hbt : ¬ bitH (hasM m.f_Kind) 2 = true := hq4; have hst : encJ m 3 = encJ m 2 := enc_no (j := 2) hbt
  replace hq4 := Bool.eq_false_iff.2 hq4
  refine cF hq4 ?_
  refine T.skip ?_
  refine eN ⟨[aa, pv 0 0, aa, pv 1 0, aa, ownV 2 kU8 0 (encJ m 2).length, aa, aa, aa, aa, aa, aa, aa, aa, aa, aa, aa, aa, aa, aa, aa, aa, aa, aa, aa, aa, aa, aa, aa, aa, aa, aa, vB (hasM m.f_Kind).f_Client], (Z4j tm m)⟩ ?_
  refine Ends.turn (s' := ⟨(Z4k m), (Z4l tm m)⟩) (fun _ _ hG => Gs.iI [0, 1, 2] (bm 6 42) (t2 := (Z4i m)) (h2 := (Z4j tm m)) (by have e1 : ((encJ m 3).length : Nat) = (encJ m 2).length := (by (rw [hst]; done)); have hE := congrArg (fun (q1 : Nat) => ([aa, pv 0 0, aa, pv 1 0, aa, ownV 2 kU8 0 q1] : List AV)) e1; exact hE) (by have e1 : ((encJ m 3) : List UInt8) = (encJ m 2) := (by (rw [hst]; done)); have hE := congrArg (fun (q1 : List UInt8) => ([(Z4b tm m), (Z4e m), .live (arrK 5 kU8 q1)] : List HS)) e1; exact hE) hG) ?_
  exact nJ
 refine T.join ⟨(Z4n m), (Z4o tm m)⟩ ?_ ?_
 ·refine sR [] ?_
  by_cases hq5 : (hasM m.f_Kind).f_Digest = true
  ·have hbt : bitH (hasM m.f_Kind) 3 = true := hq5; have hst : encJ m 4 = encJ m 3 ++ bytesB m.f_Digest := (enc_yes (j := 3) (i := 3) rfl hbt); have hrm := enc_room (m := m) (j := 3) (i := 3) rfl hbt (by decide); simp only [fldM, List.length_append, int_len, bytes_len] at hrm
   refine cT hq5 ?_
   refine xR [hR 3 rfl rfl (r_bytesOf (l := m.f_Digest) Tryz.underlying40 Tryz.underlying33 Tryz.underlying5 (lt_of rfl) trivial),
     hR 4 rfl rfl (r_call (ref01_Bytes true false (encJ m 3) false true m.f_Digest (by omega)) Tryz.func46 rfl (by decide) [3] [2] (l := [(.tmp 42, ownV 2 kU8 0 (encJ m 3).length), (.tmp 45, slV false true kU8 m.f_Digest)]) [(2, .live (arrK 5 kU8 (encJ m 3)))] rfl 0 1 rfl rfl rfl rfl rfl rfl rfl rfl rfl ⟨.inr (.inl ⟨rfl, (fun h => by cases h), rfl, rfl, by simp, 5, (encJ m 3).length, elOf kU8 (encJ m 3), List.Mem.head _, (by exact Nat.le_of_eq (Nat.zero_add _)), fun i j => by rw [Nat.zero_add]⟩), ⟨.inl ⟨rfl, rfl⟩, trivial⟩⟩ rfl (by intro b hb; simp only [List.mem_cons, List.not_mem_nil, or_false] at hb; rcases hb with rfl; exact ⟨_, List.Mem.head _⟩) (.inr ⟨trivial, (And.intro (arr_nt kU8_nt) trivial)⟩) (lt_of rfl) trivial)] (by kernel_rfl) (by kernel_rfl) ?_
   refine eN ⟨[aa, pv 0 0, aa, pv 1 0, aa, ownV 3 kU8 0 ((encJ m 3) ++ bytesB m.f_Digest).length, aa, aa, aa, aa, aa, aa, aa, aa, aa, aa, aa, aa, aa, aa, aa, aa, aa, aa, aa, aa, aa, aa, aa, aa, aa, aa, aa, aa, aa, aa, aa, aa, aa, aa, aa, vB (hasM m.f_Kind).f_Digest], [(Z4b tm m), (Z4e m), .live (arrK 5 kU8 (encJ m 3)), .live (arrK 5 kU8 ((encJ m 3) ++ bytesB m.f_Digest))]⟩ ?_
   refine Ends.turn (s' := ⟨(Z4n m), (Z4o tm m)⟩) (fun _ _ hG => Gs.i2 [0, 1, 3] (bm 6 42) (t1 := [aa, pv 0 0, aa, pv 1 0, aa, ownV 3 kU8 0 (encJ m 4).length]) (t2 := [aa, pv 0 0, aa, pv 1 0, aa, ownV 3 kU8 0 ((encJ m 3) ++ bytesB m.f_Digest).length]) (h1 := (Z4o tm m)) (h2 := [(Z4b tm m), (Z4e m), .live (arrK 5 kU8 ((encJ m 3) ++ bytesB m.f_Digest))]) (by have e1 : ((encJ m 4).length : Nat) = ((encJ m 3) ++ bytesB m.f_Digest).length := (by (rw [hst]; done)); have hE := congrArg (fun (q1 : Nat) => ([aa, pv 0 0, aa, pv 1 0, aa, ownV 3 kU8 0 q1] : List AV)) e1; exact hE) (by have e1 : ((encJ m 4) : List UInt8) = (encJ m 3) ++ bytesB m.f_Digest := (by (rw [hst]; done)); have hE := congrArg (fun (q1 : List UInt8) => ([(Z4b tm m), (Z4e m), .live (arrK 5 kU8 q1)] : List HS)) e1; exact hE) hG) ?_
   exact nJ
  have hbt : ¬ bitH (hasM m.f_Kind) 3 = true := hq5; have hst : encJ m 4 = encJ m 3 := enc_no (j := 3) hbt
  replace hq5 := Bool.eq_false_iff.2 hq5
  refine cF hq5 ?_
  refine T.skip ?_
  refine eN ⟨[aa, pv 0 0, aa, pv 1 0, aa, ownV 2 kU8 0 (encJ m 3).length, aa, aa, aa, aa, aa, aa, aa, aa, aa, aa, aa, aa, aa, aa, aa, aa, aa, aa, aa, aa, aa, aa, aa, aa, aa, aa, aa, aa, aa, aa, aa, aa, aa, aa, aa, vB (hasM m.f_Kind).f_Digest], (Z4l tm m)⟩ ?_
  refine Ends.turn (s' := ⟨(Z4n m), (Z4o tm m)⟩) (fun _ _ hG => Gs.iI [0, 1, 2] (bm 6 42) (t2 := (Z4k m)) (h2 := (Z4l tm m)) (by have e1 : ((encJ m 4).length : Nat) = (encJ m 3).length := (by (rw [hst]; done)); have hE := congrArg (fun (q1 : Nat) => ([aa, pv 0 0, aa, pv 1 0, aa, ownV 2 kU8 0 q1] : List AV)) e1; exact hE) (by have e1 : ((encJ m 4) : List UInt8) = (encJ m 3) := (by (rw [hst]; done)); have hE := congrArg (fun (q1 : List UInt8) => ([(Z4b tm m), (Z4e m), .live (arrK 5 kU8 q1)] : List HS)) e1; exact hE) hG) ?_
  exact nJ
 refine T.join ⟨(Z4p m), (Z4q tm m)⟩ ?_ ?_
 ·refine sR [] ?_
  by_cases hq6 : (hasM m.f_Kind).f_Data = true
  ·have hbt : bitH (hasM m.f_Kind) 4 = true := hq6; have hst : encJ m 5 = encJ m 4 ++ bytesB m.f_Data := (enc_yes (j := 4) (i := 4) rfl hbt); have hrm := enc_room (m := m) (j := 4) (i := 4) rfl hbt (by decide); simp only [fldM, List.length_append, int_len, bytes_len] at hrm
   refine cT hq6 ?_
   refine xK [hR 3 rfl rfl (r_call (ref01_Bytes true false (encJ m 4) tm false m.f_Data (by omega)) Tryz.func46 rfl (by decide) [3] [2] (l := [(.tmp 49, ownV 2 kU8 0 (encJ m 4).length), (.tmp 51, slV tm false kU8 m.f_Data)]) [(2, .live (arrK 5 kU8 (encJ m 4)))] rfl 0 1 rfl rfl rfl rfl rfl rfl rfl rfl rfl ⟨.inr (.inl ⟨rfl, (fun h => by cases h), rfl, rfl, by simp, 5, (encJ m 4).length, elOf kU8 (encJ m 4), List.Mem.head _, (by exact Nat.le_of_eq (Nat.zero_add _)), fun i j => by rw [Nat.zero_add]⟩), ⟨.inl ⟨rfl, rfl⟩, trivial⟩⟩ rfl (by intro b hb; simp only [List.mem_cons, List.not_mem_nil, or_false] at hb; rcases hb with rfl; exact ⟨_, List.Mem.head _⟩) (.inr ⟨trivial, (And.intro (arr_nt kU8_nt) trivial)⟩) (lt_of rfl) trivial)] ?_
   refine eN ⟨[aa, pv 0 0, aa, pv 1 0, aa, ownV 3 kU8 0 ((encJ m 4) ++ bytesB m.f_Data).length, aa, aa, aa, aa, aa, aa, aa, aa, aa, aa, aa, aa, aa, aa, aa, aa, aa, aa, aa, aa, aa, aa, aa, aa, aa, aa, aa, aa, aa, aa, aa, aa, aa, aa, aa, aa, aa, aa, aa, aa, aa, aa, vB (hasM m.f_Kind).f_Data], [(Z4b tm m), (Z4e m), .live (arrK 5 kU8 (encJ m 4)), .live (arrK 5 kU8 ((encJ m 4) ++ bytesB m.f_Data))]⟩ ?_
   refine Ends.turn (s' := ⟨(Z4p m), (Z4q tm m)⟩) (fun _ _ hG => Gs.i2 [0, 1, 3] (bm 6 42) (t1 := [aa, pv 0 0, aa, pv 1 0, aa, ownV 3 kU8 0 (encJ m 5).length]) (t2 := [aa, pv 0 0, aa, pv 1 0, aa, ownV 3 kU8 0 ((encJ m 4) ++ bytesB m.f_Data).length]) (h1 := (Z4q tm m)) (h2 := [(Z4b tm m), (Z4e m), .live (arrK 5 kU8 ((encJ m 4) ++ bytesB m.f_Data))]) (by have e1 : ((encJ m 5).length : Nat) = ((encJ m 4) ++ bytesB m.f_Data).length := (by (rw [hst]; done)); have hE := congrArg (fun (q1 : Nat) => ([aa, pv 0 0, aa, pv 1 0, aa, ownV 3 kU8 0 q1] : List AV)) e1; exact hE) (by have e1 : ((encJ m 5) : List UInt8) = (encJ m 4) ++ bytesB m.f_Data := (by (rw [hst]; done)); have hE := congrArg (fun (q1 : List UInt8) => ([(Z4b tm m), (Z4e m), .live (arrK 5 kU8 q1)] : List HS)) e1; exact hE) hG) ?_
   exact nJ
  have hbt : ¬ bitH (hasM m.f_Kind) 4 = true := hq6; have hst : encJ m 5 = encJ m 4 := enc_no (j := 4) hbt
  replace hq6 := Bool.eq_false_iff.2 hq6
  refine cF hq6 ?_
  refine T.skip ?_
  refine eN ⟨[aa, pv 0 0, aa, pv 1 0, aa, ownV 2 kU8 0 (encJ m 4).length, aa, aa, aa, aa, aa, aa, aa, aa, aa, aa, aa, aa, aa, aa, aa, aa, aa, aa, aa, aa, aa, aa, aa, aa, aa, aa, aa, aa, aa, aa, aa, aa, aa, aa, aa, aa, aa, aa, aa, aa, aa, aa, vB (hasM m.f_Kind).f_Data], (Z4o tm m)⟩ ?_
  refine Ends.turn (s' := ⟨(Z4p m), (Z4q tm m)⟩) (fun _ _ hG => Gs.iI [0, 1, 2] (bm 6 42) (t2 := (Z4n m)) (h2 := (Z4o tm m)) (by have e1 : ((encJ m 5).length : Nat) = (encJ m 4).length := (by (rw [hst]; done)); have hE := congrArg (fun (q1 : Nat) => ([aa, pv 0 0, aa, pv 1 0, aa, ownV 2 kU8 0 q1] : List AV)) e1; exact hE) (by have e1 : ((encJ m 5) : List UInt8) = (encJ m 4) := (by (rw [hst]; done)); have hE := congrArg (fun (q1 : List UInt8) => ([(Z4b tm m), (Z4e m), .live (arrK 5 kU8 q1)] : List HS)) e1; exact hE) hG) ?_
  exact nJ
 refine T.join ⟨(Z4r m), (Z4s tm m)⟩ ?_ ?_
 ·refine sR [] ?_
  by_cases hq7 : (hasM m.f_Kind).f_Result = true
  ·have hbt : bitH (hasM m.f_Kind) 5 = true := hq7; have hst : encJ m 6 = encJ m 5 ++ intB m.f_Result.f_Code ++ intB m.f_Result.f_Stage := (enc_yes (j := 5) (i := 5) rfl hbt).trans (List.append_assoc ..).symm; have hrm := enc_room (m := m) (j := 5) (i := 5) rfl hbt (by decide); simp only [fldM, List.length_append, int_len, bytes_len] at hrm
   refine cT hq7 ?_
   refine xD [[], [], [1], [1, 2], [0, 1, 2, 3], [], [5], [5, 6], [0, 1, 2, 3, 4, 5, 6, 7], [0, 1, 2, 3, 4, 5, 6, 7, 8]] [hR 4 rfl rfl (r_call (ref01_Int true false (encJ m 5) m.f_Result.f_Code (by omega)) Tryz.func45 rfl (by decide) [3] [2] (l := [(.tmp 55, ownV 2 kU8 0 (encJ m 5).length), (.tmp 58, vI m.f_Result.f_Code)]) [(2, .live (arrK 5 kU8 (encJ m 5)))] rfl 0 1 rfl rfl rfl rfl rfl rfl rfl rfl rfl ⟨.inr (.inl ⟨rfl, (fun h => by cases h), rfl, rfl, by simp, 5, (encJ m 5).length, elOf kU8 (encJ m 5), List.Mem.head _, (by exact Nat.le_of_eq (Nat.zero_add _)), fun i j => by rw [Nat.zero_add]⟩), ⟨.inl ⟨rfl, rfl⟩, trivial⟩⟩ rfl (by intro b hb; simp only [List.mem_cons, List.not_mem_nil, or_false] at hb; rcases hb with rfl; exact ⟨_, List.Mem.head _⟩) (.inr ⟨trivial, (And.intro (arr_nt kU8_nt) trivial)⟩) (lt_of rfl) trivial),
     hR 8 rfl rfl (r_call (ref01_Int true false ((encJ m 5) ++ intB m.f_Result.f_Code) m.f_Result.f_Stage (by (simp only [List.length_append, List.length_singleton, maxLen]; omega))) Tryz.func45 rfl (by decide) [4] [3] (l := [(.tmp 59, ownV 3 kU8 0 ((encJ m 5) ++ intB m.f_Result.f_Code).length), (.tmp 62, vI m.f_Result.f_Stage)]) [(3, .live (arrK 5 kU8 ((encJ m 5) ++ intB m.f_Result.f_Code)))] rfl 0 1 rfl rfl rfl rfl rfl rfl rfl rfl rfl ⟨.inr (.inl ⟨rfl, (fun h => by cases h), rfl, rfl, by simp, 5, ((encJ m 5) ++ intB m.f_Result.f_Code).length, elOf kU8 ((encJ m 5) ++ intB m.f_Result.f_Code), List.Mem.head _, (by exact Nat.le_of_eq (Nat.zero_add _)), fun i j => by rw [Nat.zero_add]⟩), ⟨.inl ⟨rfl, rfl⟩, trivial⟩⟩ rfl (by intro b hb; simp only [List.mem_cons, List.not_mem_nil, or_false] at hb; rcases hb with rfl; exact ⟨_, List.Mem.head _⟩) (.inr ⟨trivial, (And.intro (arr_nt kU8_nt) trivial)⟩) (lt_of rfl) trivial)] (by kernel_rfl) (by kernel_rfl) (by kernel_rfl) (by kernel_rfl) (by kernel_rfl) (by kernel_rfl) ?_
   refine eN ⟨[aa, pv 0 0, aa, pv 1 0, aa, (Z4t m), aa, aa, aa, aa, aa, aa, aa, aa, aa, aa, aa, aa, aa, aa, aa, aa, aa, aa, aa, aa, aa, aa, aa, aa, aa, aa, aa, aa, aa, aa, aa, aa, aa, aa, aa, aa, aa, aa, aa, aa, aa, aa, aa, aa, aa, aa, aa, aa, vB (hasM m.f_Kind).f_Result], [(Z4b tm m), (Z4e m), .live (arrK 5 kU8 (encJ m 5)), .live (arrK 5 kU8 ((encJ m 5) ++ intB m.f_Result.f_Code)), .live (arrK 5 kU8 ((encJ m 5) ++ intB m.f_Result.f_Code ++ intB m.f_Result.f_Stage))]⟩ ?_
   refine Ends.turn (s' := ⟨(Z4r m), (Z4s tm m)⟩) (fun _ _ hG => Gs.i2 [0, 1, 4] (bm 6 42) (t1 := [aa, pv 0 0, aa, pv 1 0, aa, ownV 4 kU8 0 (encJ m 6).length]) (t2 := [aa, pv 0 0, aa, pv 1 0, aa, (Z4t m)]) (h1 := (Z4s tm m)) (h2 := [(Z4b tm m), (Z4e m), .live (arrK 5 kU8 ((encJ m 5) ++ intB m.f_Result.f_Code ++ intB m.f_Result.f_Stage))]) (by have e1 : ((encJ m 6).length : Nat) = ((encJ m 5) ++ intB m.f_Result.f_Code ++ intB m.f_Result.f_Stage).length := (by (rw [hst]; done)); have hE := congrArg (fun (q1 : Nat) => ([aa, pv 0 0, aa, pv 1 0, aa, ownV 4 kU8 0 q1] : List AV)) e1; exact hE) (by have e1 : ((encJ m 6) : List UInt8) = (encJ m 5) ++ intB m.f_Result.f_Code ++ intB m.f_Result.f_Stage := (by (rw [hst]; done)); have hE := congrArg (fun (q1 : List UInt8) => ([(Z4b tm m), (Z4e m), .live (arrK 5 kU8 q1)] : List HS)) e1; exact hE) hG) ?_
   exact nJ
  have hbt : ¬ bitH (hasM m.f_Kind) 5 = true := hq7; have hst : encJ m 6 = encJ m 5 := enc_no (j := 5) hbt
  replace hq7 := Bool.eq_false_iff.2 hq7
  refine cF hq7 ?_
  refine T.skip ?_
  refine eN ⟨[aa, pv 0 0, aa, pv 1 0, aa, ownV 2 kU8 0 (encJ m 5).length, aa, aa, aa, aa, aa, aa, aa, aa, aa, aa, aa, aa, aa, aa, aa, aa, aa, aa, aa, aa, aa, aa, aa, aa, aa, aa, aa, aa, aa, aa, aa, aa, aa, aa, aa, aa, aa, aa, aa, aa, aa, aa, aa, aa, aa, aa, aa, aa, vB (hasM m.f_Kind).f_Result], (Z4q tm m)⟩ ?_
  refine Ends.turn (s' := ⟨(Z4r m), (Z4s tm m)⟩) (fun _ _ hG => Gs.iI [0, 1, 2] (bm 6 42) (t2 := (Z4p m)) (h2 := (Z4q tm m)) (by have e1 : ((encJ m 6).length : Nat) = (encJ m 5).length := (by (rw [hst]; done)); have hE := congrArg (fun (q1 : Nat) => ([aa, pv 0 0, aa, pv 1 0, aa, ownV 2 kU8 0 q1] : List AV)) e1; exact hE) (by have e1 : ((encJ m 6) : List UInt8) = (encJ m 5) := (by (rw [hst]; done)); have hE := congrArg (fun (q1 : List UInt8) => ([(Z4b tm m), (Z4e m), .live (arrK 5 kU8 q1)] : List HS)) e1; exact hE) hG) ?_
  exact nJ
 refine T.join ⟨(Z4u m), (Z4v tm m)⟩ ?_ ?_
 ·refine sR [] ?_
  by_cases hq8 : (hasM m.f_Kind).f_Batch = true
  ·have hbt : bitH (hasM m.f_Kind) 6 = true := hq8; have hst : encJ m 7 = encJ m 6 ++ listB m.f_Batch := (enc_yes (j := 6) (i := 6) rfl hbt); have hrm := enc_room (m := m) (j := 6) (i := 6) rfl hbt (by decide); simp only [fldM, List.length_append, int_len, bytes_len] at hrm
   refine cT hq8 ?_
   refine xK [hR 3 rfl rfl (r_call (ref12_list true false (encJ m 6) tm false tm m.f_Batch (by omega) (by omega)) Tryz.func47 rfl (by decide) [3] [2] (l := [(.tmp 66, ownV 2 kU8 0 (encJ m 6).length), (.tmp 68, slV tm false (kE tm) m.f_Batch)]) [(2, .live (arrK 5 kU8 (encJ m 6)))] rfl 0 1 rfl rfl rfl rfl rfl rfl rfl rfl rfl ⟨.inr (.inl ⟨rfl, (fun h => by cases h), rfl, rfl, by simp, 5, (encJ m 6).length, elOf kU8 (encJ m 6), List.Mem.head _, (by exact Nat.le_of_eq (Nat.zero_add _)), fun i j => by rw [Nat.zero_add]⟩), ⟨.inl ⟨rfl, rfl⟩, trivial⟩⟩ rfl (by intro b hb; simp only [List.mem_cons, List.not_mem_nil, or_false] at hb; rcases hb with rfl; exact ⟨_, List.Mem.head _⟩) (.inr ⟨trivial, (And.intro (arr_nt kU8_nt) trivial)⟩) (lt_of rfl) trivial)] ?_
   refine eN ⟨[aa, pv 0 0, aa, pv 1 0, aa, ownV 3 kU8 0 ((encJ m 6) ++ listB m.f_Batch).length, aa, aa, aa, aa, aa, aa, aa, aa, aa, aa, aa, aa, aa, aa, aa, aa, aa, aa, aa, aa, aa, aa, aa, aa, aa, aa, aa, aa, aa, aa, aa, aa, aa, aa, aa, aa, aa, aa, aa, aa, aa, aa, aa, aa, aa, aa, aa, aa, aa, aa, aa, aa, aa, aa, aa, aa, aa, aa, aa, vB (hasM m.f_Kind).f_Batch], [(Z4b tm m), (Z4e m), .live (arrK 5 kU8 (encJ m 6)), .live (arrK 5 kU8 ((encJ m 6) ++ listB m.f_Batch))]⟩ ?_
   refine Ends.turn (s' := ⟨(Z4u m), (Z4v tm m)⟩) (fun _ _ hG => Gs.i2 [0, 1, 3] (bm 6 42) (t1 := [aa, pv 0 0, aa, pv 1 0, aa, ownV 3 kU8 0 (encJ m 7).length]) (t2 := [aa, pv 0 0, aa, pv 1 0, aa, ownV 3 kU8 0 ((encJ m 6) ++ listB m.f_Batch).length]) (h1 := (Z4v tm m)) (h2 := [(Z4b tm m), (Z4e m), .live (arrK 5 kU8 ((encJ m 6) ++ listB m.f_Batch))]) (by have e1 : ((encJ m 7).length : Nat) = ((encJ m 6) ++ listB m.f_Batch).length := (by (rw [hst]; done)); have hE := congrArg (fun (q1 : Nat) => ([aa, pv 0 0, aa, pv 1 0, aa, ownV 3 kU8 0 q1] : List AV)) e1; exact hE) (by have e1 : ((encJ m 7) : List UInt8) = (encJ m 6) ++ listB m.f_Batch := (by (rw [hst]; done)); have hE := congrArg (fun (q1 : List UInt8) => ([(Z4b tm m), (Z4e m), .live (arrK 5 kU8 q1)] : List HS)) e1; exact hE) hG) ?_
   exact nJ
  have hbt : ¬ bitH (hasM m.f_Kind) 6 = true := hq8; have hst : encJ m 7 = encJ m 6 := enc_no (j := 6) hbt
  replace hq8 := Bool.eq_false_iff.2 hq8
  refine cF hq8 ?_
  refine T.skip ?_
  refine eN ⟨[aa, pv 0 0, aa, pv 1 0, aa, ownV 2 kU8 0 (encJ m 6).length, aa, aa, aa, aa, aa, aa, aa, aa, aa, aa, aa, aa, aa, aa, aa, aa, aa, aa, aa, aa, aa, aa, aa, aa, aa, aa, aa, aa, aa, aa, aa, aa, aa, aa, aa, aa, aa, aa, aa, aa, aa, aa, aa, aa, aa, aa, aa, aa, aa, aa, aa, aa, aa, aa, aa, aa, aa, aa, aa, vB (hasM m.f_Kind).f_Batch], (Z4s tm m)⟩ ?_
  refine Ends.turn (s' := ⟨(Z4u m), (Z4v tm m)⟩) (fun _ _ hG => Gs.iI [0, 1, 2] (bm 6 42) (t2 := (Z4r m)) (h2 := (Z4s tm m)) (by have e1 : ((encJ m 7).length : Nat) = (encJ m 6).length := (by (rw [hst]; done)); have hE := congrArg (fun (q1 : Nat) => ([aa, pv 0 0, aa, pv 1 0, aa, ownV 2 kU8 0 q1] : List AV)) e1; exact hE) (by have e1 : ((encJ m 7) : List UInt8) = (encJ m 6) := (by (rw [hst]; done)); have hE := congrArg (fun (q1 : List UInt8) => ([(Z4b tm m), (Z4e m), .live (arrK 5 kU8 q1)] : List HS)) e1; exact hE) hG) ?_
  exact nJ
 refine T.join ⟨(Z4w m), (Z4x tm m)⟩ ?_ ?_
 ·refine sR [] ?_
  by_cases hq9 : (hasM m.f_Kind).f_Pres = true
  ·have hbt : bitH (hasM m.f_Kind) 7 = true := hq9; have hst : encJ m 8 = encJ m 7 ++ listB m.f_Pres := (enc_yes (j := 7) (i := 7) rfl hbt); have hrm := enc_room (m := m) (j := 7) (i := 7) rfl hbt (by decide); simp only [fldM, List.length_append, int_len, bytes_len] at hrm
   refine cT hq9 ?_
   refine xK [hR 3 rfl rfl (r_call (ref12_list true false (encJ m 7) tm false tm m.f_Pres (by omega) (by omega)) Tryz.func47 rfl (by decide) [3] [2] (l := [(.tmp 72, ownV 2 kU8 0 (encJ m 7).length), (.tmp 74, slV tm false (kE tm) m.f_Pres)]) [(2, .live (arrK 5 kU8 (encJ m 7)))] rfl 0 1 rfl rfl rfl rfl rfl rfl rfl rfl rfl ⟨.inr (.inl ⟨rfl, (fun h => by cases h), rfl, rfl, by simp, 5, (encJ m 7).length, elOf kU8 (encJ m 7), List.Mem.head _, (by exact Nat.le_of_eq (Nat.zero_add _)), fun i j => by rw [Nat.zero_add]⟩), ⟨.inl ⟨rfl, rfl⟩, trivial⟩⟩ rfl (by intro b hb; simp only [List.mem_cons, List.not_mem_nil, or_false] at hb; rcases hb with rfl; exact ⟨_, List.Mem.head _⟩) (.inr ⟨trivial, (And.intro (arr_nt kU8_nt) trivial)⟩) (lt_of rfl) trivial)] ?_
   refine eN ⟨[aa, pv 0 0, aa, pv 1 0, aa, ownV 3 kU8 0 ((encJ m 7) ++ listB m.f_Pres).length, aa, aa, aa, aa, aa, aa, aa, aa, aa, aa, aa, aa, aa, aa, aa, aa, aa, aa, aa, aa, aa, aa, aa, aa, aa, aa, aa, aa, aa, aa, aa, aa, aa, aa, aa, aa, aa, aa, aa, aa, aa, aa, aa, aa, aa, aa, aa, aa, aa, aa, aa, aa, aa, aa, aa, aa, aa, aa, aa, aa, aa, aa, aa, aa, aa, vB (hasM m.f_Kind).f_Pres], [(Z4b tm m), (Z4e m), .live (arrK 5 kU8 (encJ m 7)), .live (arrK 5 kU8 ((encJ m 7) ++ listB m.f_Pres))]⟩ ?_
   refine Ends.turn (s' := ⟨(Z4w m), (Z4x tm m)⟩) (fun _ _ hG => Gs.i2 [0, 1, 3] (bm 6 42) (t1 := [aa, pv 0 0, aa, pv 1 0, aa, ownV 3 kU8 0 (encJ m 8).length]) (t2 := [aa, pv 0 0, aa, pv 1 0, aa, ownV 3 kU8 0 ((encJ m 7) ++ listB m.f_Pres).length]) (h1 := (Z4x tm m)) (h2 := [(Z4b tm m), (Z4e m), .live (arrK 5 kU8 ((encJ m 7) ++ listB m.f_Pres))]) (by have e1 : ((encJ m 8).length : Nat) = ((encJ m 7) ++ listB m.f_Pres).length := (by (rw [hst]; done)); have hE := congrArg (fun (q1 : Nat) => ([aa, pv 0 0, aa, pv 1 0, aa, ownV 3 kU8 0 q1] : List AV)) e1; exact hE) (by have e1 : ((encJ m 8) : List UInt8) = (encJ m 7) ++ listB m.f_Pres := (by (rw [hst]; done)); have hE := congrArg (fun (q1 : List UInt8) => ([(Z4b tm m), (Z4e m), .live (arrK 5 kU8 q1)] : List HS)) e1; exact hE) hG) ?_
   exact nJ
  have hbt : ¬ bitH (hasM m.f_Kind) 7 = true := hq9; have hst : encJ m 8 = encJ m 7 := enc_no (j := 7) hbt
  replace hq9 := Bool.eq_false_iff.2 hq9
  refine cF hq9 ?_
  refine T.skip ?_
  refine eN ⟨[aa, pv 0 0, aa, pv 1 0, aa, ownV 2 kU8 0 (encJ m 7).length, aa, aa, aa, aa, aa, aa, aa, aa, aa, aa, aa, aa, aa, aa, aa, aa, aa, aa, aa, aa, aa, aa, aa, aa, aa, aa, aa, aa, aa, aa, aa, aa, aa, aa, aa, aa, aa, aa, aa, aa, aa, aa, aa, aa, aa, aa, aa, aa, aa, aa, aa, aa, aa, aa, aa, aa, aa, aa, aa, aa, aa, aa, aa, aa, aa, vB (hasM m.f_Kind).f_Pres], (Z4v tm m)⟩ ?_
  refine Ends.turn (s' := ⟨(Z4w m), (Z4x tm m)⟩) (fun _ _ hG => Gs.iI [0, 1, 2] (bm 6 42) (t2 := (Z4u m)) (h2 := (Z4v tm m)) (by have e1 : ((encJ m 8).length : Nat) = (encJ m 7).length := (by (rw [hst]; done)); have hE := congrArg (fun (q1 : Nat) => ([aa, pv 0 0, aa, pv 1 0, aa, ownV 2 kU8 0 q1] : List AV)) e1; exact hE) (by have e1 : ((encJ m 8) : List UInt8) = (encJ m 7) := (by (rw [hst]; done)); have hE := congrArg (fun (q1 : List UInt8) => ([(Z4b tm m), (Z4e m), .live (arrK 5 kU8 q1)] : List HS)) e1; exact hE) hG) ?_
  exact nJ
 refine T.join ⟨(Z4y m), (Z4z tm m)⟩ ?_ ?_
 ·refine sR [] ?_
  by_cases hq10 : (hasM m.f_Kind).f_Certs = true
  ·have hbt : bitH (hasM m.f_Kind) 8 = true := hq10; have hst : encJ m 9 = encJ m 8 ++ certsB m.f_Certs := (enc_yes (j := 8) (i := 8) rfl hbt); have hrm := enc_room (m := m) (j := 8) (i := 8) rfl hbt (by decide); simp only [fldM, List.length_append, int_len, bytes_len] at hrm
   refine cT hq10 ?_
   refine sR [hR 4 rfl rfl (r_call (ref01_Count true false (encJ m 8) ((m.f_Certs.length : Nat) : Int) (by omega)) Tryz.func48 rfl (by decide) [3] [2] (l := [(.tmp 78, ownV 2 kU8 0 (encJ m 8).length), (.tmp 81, vI ((m.f_Certs.length : Nat) : Int))]) [(2, .live (arrK 5 kU8 (encJ m 8)))] rfl 0 1 rfl rfl rfl rfl rfl rfl rfl rfl rfl ⟨.inr (.inl ⟨rfl, (fun h => by cases h), rfl, rfl, by simp, 5, (encJ m 8).length, elOf kU8 (encJ m 8), List.Mem.head _, (by exact Nat.le_of_eq (Nat.zero_add _)), fun i j => by rw [Nat.zero_add]⟩), ⟨.inl ⟨rfl, rfl⟩, trivial⟩⟩ rfl (by intro b hb; simp only [List.mem_cons, List.not_mem_nil, or_false] at hb; rcases hb with rfl; exact ⟨_, List.Mem.head _⟩) (.inr ⟨trivial, (And.intro (arr_nt kU8_nt) trivial)⟩) (lt_of rfl) trivial)] ?_
   refine sR [] ?_
   refine T.block ?_
   refine T.loop (ι := Nat) (fun (k : Nat) => (Z52 tm m k)) (fun (k : Nat) => (k ≤ m.f_Certs.length)) (fun (k : Nat) => m.f_Certs.length - k) (0) (Nat.zero_le _) (fun _ _ hG => Gs.i2 [0, 1, 3] (bm 7 106) (t1 := [aa, pv 0 0, aa, pv 1 0, aa, ownV 3 kU8 0 ((encJ m 8) ++ cntB ((m.f_Certs.length : Nat) : Int) ++ crtB m.f_Certs 0).length, vI 0]) (t2 := [aa, pv 0 0, aa, pv 1 0, aa, ownV 3 kU8 0 ((encJ m 8) ++ cntB ((m.f_Certs.length : Nat) : Int)).length, vI 0]) (h1 := (Z53 tm m)) (h2 := [(Z4b tm m), (Z4e m), .live (arrK 5 kU8 ((encJ m 8) ++ cntB ((m.f_Certs.length : Nat) : Int)))]) (by have e1 : (((encJ m 8) ++ cntB ((m.f_Certs.length : Nat) : Int) ++ crtB m.f_Certs 0).length : Nat) = ((encJ m 8) ++ cntB ((m.f_Certs.length : Nat) : Int)).length := (by (rw [crt_0, List.append_nil]; done)); have hE := congrArg (fun (q1 : Nat) => ([aa, pv 0 0, aa, pv 1 0, aa, ownV 3 kU8 0 q1, vI 0] : List AV)) e1; exact hE) (by have e1 : (((encJ m 8) ++ cntB ((m.f_Certs.length : Nat) : Int) ++ crtB m.f_Certs 0) : List UInt8) = (encJ m 8) ++ cntB ((m.f_Certs.length : Nat) : Int) := (by (rw [crt_0, List.append_nil]; done)); have hE := congrArg (fun (q1 : List UInt8) => ([(Z4b tm m), (Z4e m), .live (arrK 5 kU8 q1)] : List HS)) e1; exact hE) hG) ?_
   rintro k hk
   show T _ _ (Z52 tm m k) _ _
   replace hk : k ≤ m.f_Certs.length := hk
   have hcle := crt_le m.f_Certs k
   refine T.seq ?_
   refine sR [] ?_
   by_cases hq11 : ((k : Nat) : Int) < ((m.f_Certs.length : Nat) : Int)
   ·have hcr := crt_room (l := m.f_Certs) (k := k) (by omega); have hvc := list_cnt (m.f_Certs.getD k zC).f_Votes; have hcl := cnt_len ((m.f_Certs.length : Nat) : Int)
    refine cT (dT hq11) ?_
    refine T.skip (nT (T.seq ?_))
    refine T.block ?_
    refine xD [[], [], [1], [], [1, 2, 3], [1, 2, 3, 4], [1, 2, 3, 4, 5], [0, 1, 2, 3, 4, 5, 6], [], [8], [], [8, 9, 10], [8, 9, 10, 11], [8, 9, 10, 11, 12], [0, 1, 2, 3, 4, 5, 6, 7, 8, 9, 10, 11, 12, 13], [0, 1, 2, 3, 4, 5, 6, 7, 8, 9, 10, 11, 12, 13, 14]] [hR 4 rfl rfl (q_index tm false (kC tm) m.f_Certs k (k := .i64) (i := ((k : Nat) : Int)) Tryz.underlying44 iat_38 rfl rfl (by omega) (lt_of rfl) trivial),
      hR 7 rfl rfl (r_call (ref12_Envelope true false ((encJ m 8) ++ cntB ((m.f_Certs.length : Nat) : Int) ++ crtB m.f_Certs k) tm (m.f_Certs.getD k zC).f_Pre (by (simp only [List.length_append, List.length_singleton, maxLen]; omega))) Tryz.func33 rfl (by decide) [3] [2] (l := [(.tmp 90, (Z50 m k)), (.tmp 96, .tv (.agg [dI (m.f_Certs.getD k zC).f_Pre.f_Signer, .d (dsl tm false kU8 (m.f_Certs.getD k zC).f_Pre.f_Body)]))]) [(2, (Z51 m k))] rfl 0 1 rfl rfl rfl rfl rfl rfl rfl rfl rfl ⟨.inr (.inl ⟨rfl, (fun h => by cases h), rfl, rfl, by simp, 5, ((encJ m 8) ++ cntB ((m.f_Certs.length : Nat) : Int) ++ crtB m.f_Certs k).length, elOf kU8 ((encJ m 8) ++ cntB ((m.f_Certs.length : Nat) : Int) ++ crtB m.f_Certs k), List.Mem.head _, (by exact Nat.le_of_eq (Nat.zero_add _)), fun i j => by rw [Nat.zero_add]⟩), ⟨⟨.inl ⟨rfl, rfl⟩, ⟨.inl ⟨rfl, rfl⟩, trivial⟩⟩, trivial⟩⟩ rfl (by intro b hb; simp only [List.mem_cons, List.not_mem_nil, or_false] at hb; rcases hb with rfl; exact ⟨_, List.Mem.head _⟩) (.inr ⟨trivial, (And.intro (arr_nt kU8_nt) trivial)⟩) (lt_of rfl) trivial),
      hR 11 rfl rfl (q_index tm false (kC tm) m.f_Certs k (k := .i64) (i := ((k : Nat) : Int)) Tryz.underlying44 iat_38 rfl rfl (by omega) (lt_of rfl) trivial),
      hR 14 rfl rfl (r_call (ref12_list true false (((encJ m 8) ++ cntB ((m.f_Certs.length : Nat) : Int) ++ crtB m.f_Certs k) ++ envB (m.f_Certs.getD k zC).f_Pre) tm false tm (m.f_Certs.getD k zC).f_Votes (by (simp only [List.length_append, List.length_singleton, maxLen]; omega)) (by omega)) Tryz.func47 rfl (by decide) [4] [3] (l := [(.tmp 97, ownV 3 kU8 0 (((encJ m 8) ++ cntB ((m.f_Certs.length : Nat) : Int) ++ crtB m.f_Certs k) ++ envB (m.f_Certs.getD k zC).f_Pre).length), (.tmp 103, slV tm false (kE tm) (m.f_Certs.getD k zC).f_Votes)]) [(3, .live (arrK 5 kU8 (((encJ m 8) ++ cntB ((m.f_Certs.length : Nat) : Int) ++ crtB m.f_Certs k) ++ envB (m.f_Certs.getD k zC).f_Pre)))] rfl 0 1 rfl rfl rfl rfl rfl rfl rfl rfl rfl ⟨.inr (.inl ⟨rfl, (fun h => by cases h), rfl, rfl, by simp, 5, (((encJ m 8) ++ cntB ((m.f_Certs.length : Nat) : Int) ++ crtB m.f_Certs k) ++ envB (m.f_Certs.getD k zC).f_Pre).length, elOf kU8 (((encJ m 8) ++ cntB ((m.f_Certs.length : Nat) : Int) ++ crtB m.f_Certs k) ++ envB (m.f_Certs.getD k zC).f_Pre), List.Mem.head _, (by exact Nat.le_of_eq (Nat.zero_add _)), fun i j => by rw [Nat.zero_add]⟩), ⟨.inl ⟨rfl, rfl⟩, trivial⟩⟩ rfl (by intro b hb; simp only [List.mem_cons, List.not_mem_nil, or_false] at hb; rcases hb with rfl; exact ⟨_, List.Mem.head _⟩) (.inr ⟨trivial, (And.intro (arr_nt kU8_nt) trivial)⟩) (lt_of rfl) trivial)] (by kernel_rfl) (by kernel_rfl) (by kernel_rfl) (by kernel_rfl) (by kernel_rfl) (by kernel_rfl) ?_
    refine nB ?_
    refine nT ?_
    refine xK [hR 1 rfl rfl (r_bin (u1 := .int .i64 ((k : Nat) : Int)) (u2 := .int .i64 1) (v := .int .i64 ((k + 1 : Nat) : Int)) (b_add (by rw [IntKind.wrap_i64]; omega)) (lt_of rfl) ⟨rfl, trivial⟩)] ?_
    refine nL (k + 1) (show (k + 1) ≤ m.f_Certs.length from (by omega)) (show (m.f_Certs.length - (k + 1) : Nat) < m.f_Certs.length - k from (by omega)) (fun _ _ hG => Gs.i2 [0, 1, 4] (bm 7 106) (t1 := [aa, pv 0 0, aa, pv 1 0, aa, ownV 4 kU8 0 ((encJ m 8) ++ cntB ((m.f_Certs.length : Nat) : Int) ++ crtB m.f_Certs (k + 1)).length, (Z54 k)]) (t2 := [aa, pv 0 0, aa, pv 1 0, aa, ownV 4 kU8 0 (((encJ m 8) ++ cntB ((m.f_Certs.length : Nat) : Int) ++ crtB m.f_Certs k) ++ envB (m.f_Certs.getD k zC).f_Pre ++ listB (m.f_Certs.getD k zC).f_Votes).length, (Z54 k)]) (h1 := (Z55 tm m k)) (h2 := [(Z4b tm m), (Z4e m), .live (arrK 5 kU8 (((encJ m 8) ++ cntB ((m.f_Certs.length : Nat) : Int) ++ crtB m.f_Certs k) ++ envB (m.f_Certs.getD k zC).f_Pre ++ listB (m.f_Certs.getD k zC).f_Votes))]) (by have e1 : (((encJ m 8) ++ cntB ((m.f_Certs.length : Nat) : Int) ++ crtB m.f_Certs (k + 1)).length : Nat) = (((encJ m 8) ++ cntB ((m.f_Certs.length : Nat) : Int) ++ crtB m.f_Certs k) ++ envB (m.f_Certs.getD k zC).f_Pre ++ listB (m.f_Certs.getD k zC).f_Votes).length := (by (rw [crt_succ (by omega)]; simp only [List.append_assoc]; done)); have hE := congrArg (fun (q1 : Nat) => ([aa, pv 0 0, aa, pv 1 0, aa, ownV 4 kU8 0 q1, (Z54 k)] : List AV)) e1; exact hE) (by have e1 : (((encJ m 8) ++ cntB ((m.f_Certs.length : Nat) : Int) ++ crtB m.f_Certs (k + 1)) : List UInt8) = ((encJ m 8) ++ cntB ((m.f_Certs.length : Nat) : Int) ++ crtB m.f_Certs k) ++ envB (m.f_Certs.getD k zC).f_Pre ++ listB (m.f_Certs.getD k zC).f_Votes := (by (rw [crt_succ (by omega)]; simp only [List.append_assoc]; done)); have hE := congrArg (fun (q1 : List UInt8) => ([(Z4b tm m), (Z4e m), .live (arrK 5 kU8 q1)] : List HS)) e1; exact hE) hG)
   refine cF (dF hq11) ?_
   refine T.exit ?_
   refine xT ?_
   refine xT ?_
   refine xH ?_
   refine eN ⟨[aa, pv 0 0, aa, pv 1 0, aa, (Z50 m k), vI ((k : Nat) : Int), aa, aa, aa, aa, aa, aa, aa, aa, aa, aa, aa, aa, aa, aa, aa, aa, aa, aa, aa, aa, aa, aa, aa, aa, aa, aa, aa, aa, aa, aa, aa, aa, aa, aa, aa, aa, aa, aa, aa, aa, aa, aa, aa, aa, aa, aa, aa, aa, aa, aa, aa, aa, aa, aa, aa, aa, aa, aa, aa, aa, aa, aa, aa, aa, aa, aa, aa, aa, aa, aa, aa, aa, aa, aa, aa, aa, aa, aa, aa, aa, vB (decide (((k : Nat) : Int) < ((m.f_Certs.length : Nat) : Int)))], [(Z4b tm m), (Z4e m), (Z51 m k)]⟩ ?_
   refine Ends.turn (s' := ⟨(Z4y m), (Z4z tm m)⟩) (fun _ _ hG => Gs.iI [0, 1, 2] (bm 6 42) (t2 := [aa, pv 0 0, aa, pv 1 0, aa, (Z50 m k)]) (h2 := [(Z4b tm m), (Z4e m), (Z51 m k)]) (by have e1 : ((encJ m 9).length : Nat) = ((encJ m 8) ++ cntB ((m.f_Certs.length : Nat) : Int) ++ crtB m.f_Certs k).length := (by (rw [hst]; simp only [certsB, List.append_assoc]; rw [crt_end (by omega)]; done)); have hE := congrArg (fun (q1 : Nat) => ([aa, pv 0 0, aa, pv 1 0, aa, ownV 2 kU8 0 q1] : List AV)) e1; exact hE) (by have e1 : ((encJ m 9) : List UInt8) = ((encJ m 8) ++ cntB ((m.f_Certs.length : Nat) : Int) ++ crtB m.f_Certs k) := (by (rw [hst]; simp only [certsB, List.append_assoc]; rw [crt_end (by omega)]; done)); have hE := congrArg (fun (q1 : List UInt8) => ([(Z4b tm m), (Z4e m), .live (arrK 5 kU8 q1)] : List HS)) e1; exact hE) hG) ?_
   exact nJ
  have hbt : ¬ bitH (hasM m.f_Kind) 8 = true := hq10; have hst : encJ m 9 = encJ m 8 := enc_no (j := 8) hbt
  replace hq10 := Bool.eq_false_iff.2 hq10
  refine cF hq10 ?_
  refine T.skip ?_
  refine eN ⟨[aa, pv 0 0, aa, pv 1 0, aa, ownV 2 kU8 0 (encJ m 8).length, aa, aa, aa, aa, aa, aa, aa, aa, aa, aa, aa, aa, aa, aa, aa, aa, aa, aa, aa, aa, aa, aa, aa, aa, aa, aa, aa, aa, aa, aa, aa, aa, aa, aa, aa, aa, aa, aa, aa, aa, aa, aa, aa, aa, aa, aa, aa, aa, aa, aa, aa, aa, aa, aa, aa, aa, aa, aa, aa, aa, aa, aa, aa, aa, aa, aa, aa, aa, aa, aa, aa, vB (hasM m.f_Kind).f_Certs], (Z4x tm m)⟩ ?_
  refine Ends.turn (s' := ⟨(Z4y m), (Z4z tm m)⟩) (fun _ _ hG => Gs.iI [0, 1, 2] (bm 6 42) (t2 := (Z4w m)) (h2 := (Z4x tm m)) (by have e1 : ((encJ m 9).length : Nat) = (encJ m 8).length := (by (rw [hst]; done)); have hE := congrArg (fun (q1 : Nat) => ([aa, pv 0 0, aa, pv 1 0, aa, ownV 2 kU8 0 q1] : List AV)) e1; exact hE) (by have e1 : ((encJ m 9) : List UInt8) = (encJ m 8) := (by (rw [hst]; done)); have hE := congrArg (fun (q1 : List UInt8) => ([(Z4b tm m), (Z4e m), .live (arrK 5 kU8 q1)] : List HS)) e1; exact hE) hG) ?_
  exact nJ
 refine sR [] ?_
 refine T.ret ?_
 refine eN ⟨(Z56 m), (Z4z tm m)⟩ ?_
 refine Ends.turn (s' := ⟨[aa, pv 0 0, slV false false kU8 (encJ m 9), pv 1 0, aa, slV false false kU8 (encJ m 9)], [(Z4b tm m), (Z4e m), .dead]⟩) (fun _ _ hG => Gs.freeze (s := ⟨(Z56 m), (Z4z tm m)⟩) 2 (el := elOf kU8 (encJ m 9)) (sz := kU8.sz) (n := (encJ m 9).length) rfl (kk2 ⟨(.inr (.inr ⟨rfl, rfl, rfl, (fun h => by cases h), rfl, rfl, Nat.le_of_eq (Nat.zero_add _), fun i j _ => by rw [Nat.zero_add]⟩)), (kk2 ⟨(.inr (.inr ⟨rfl, rfl, rfl, (fun h => by cases h), rfl, rfl, Nat.le_of_eq (Nat.zero_add _), fun i j _ => by rw [Nat.zero_add]⟩)), trivial⟩)⟩) ⟨(.inr ⟨by decide, .inl rfl⟩), ⟨(.inr ⟨by decide, .inl rfl⟩), ⟨(.inl ⟨rfl, rfl⟩), trivial⟩⟩⟩ hG) ?_
 exact eRt 2 (.one (dU (encJ m 9))) [] (congrArg (fun (q1 : List UInt8) => (slV false false kU8 q1 : AV)) (by exact (if_pos hwl))) trivial
end Go.Proofs.YtalapplihdmenaaGreat.Q
