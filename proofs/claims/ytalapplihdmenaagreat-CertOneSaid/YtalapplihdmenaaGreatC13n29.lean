import Derived.Test.YtalapplihdmenaaGreatC13n28
namespace Go.Proofs.YtalapplihdmenaaGreat.Q
open Go Go.RowKit
set_option linter.unusedVariables false
set_option linter.unusedSimpArgs false
set_option maxRecDepth 100000
set_option maxHeartbeats 4000000
end Go.Proofs.YtalapplihdmenaaGreat.Q
namespace Go.Proofs.YtalapplihdmenaaGreat.Q
set_option linter.unusedVariables false
set_option linter.unusedSimpArgs false
set_option maxRecDepth 100000
def saidE (w : aW) : aE := ⟨w.f_Signer, encB w.f_M⟩
def saidL (f u : Int) (L : List aE) (w : aW) : List aE := if w.f_Signed = true then signL f u L w.f_Signer (encB w.f_M) else L
theorem said_len (f u : Int) (L : List aE) (w : aW) : (saidL f u L w).length ≤ L.length + 1 := by
  unfold saidL; split
  · exact signL_len _ _ _ _ _
  · omega
def okM (m : aM) : Prop := (encJ m 9).length ≤ 10000000 ∧ m.f_Batch.length ≤ 10000000 ∧ m.f_Pres.length ≤ 10000000 ∧ m.f_Certs.length ≤ 10000000 ∧ m.f_Data.length ≤ 10000000 ∧ m.f_Digest.length ≤ 10000000
theorem encB_len {m : aM} (h : okM m) : (encB m).length ≤ 10000000 := by
  unfold encB
  split
  · exact h.1
  · simp
theorem said_yes {f u : Int} {L : List aE} {w : aW} (h : w.f_Signed = true) : saidL f u L w = signL f u L w.f_Signer (encB w.f_M) := if_pos h
theorem said_no {f u : Int} {L : List aE} {w : aW} (h : ¬ w.f_Signed = true) : saidL f u L w = L := if_neg h
def sayL (f u : Int) (l : List aE) (ws : List aW) (k : Nat) : List aE := (ws.take k).foldl (saidL f u) l
theorem say_succ {f u : Int} {l : List aE} {ws : List aW} {k : Nat} (hk : k < ws.length) : sayL f u l ws (k + 1) = saidL f u (sayL f u l ws k) (ws.getD k zW) := by
  unfold sayL; rw [tk_succ (z := zW) hk, List.foldl_append]; rfl
theorem says_succ {ws : List aW} {k : Nat} (hk : k < ws.length) : (ws.take (k + 1)).map saidE = (ws.take k).map saidE ++ [saidE (ws.getD k zW)] := by
  rw [tk_succ (z := zW) hk, List.map_append]; rfl
theorem say_len (f u : Int) (l : List aE) (ws : List aW) : ∀ k, (sayL f u l ws k).length ≤ l.length + k
  | 0 => Nat.le_refl _
  | k + 1 => by
    have h := say_len f u l ws k
    by_cases hk : k < ws.length
    · have := said_len f u (sayL f u l ws k) (ws.getD k zW)
      rw [say_succ hk]; omega
    · unfold sayL at h ⊢
      rw [List.take_of_length_le (by omega)] at h ⊢
      omega
end Go.Proofs.YtalapplihdmenaaGreat.Q
namespace Go.Proofs.YtalapplihdmenaaGreat.Q
open Go Go.RowKit
set_option linter.unusedVariables false
set_option linter.unusedSimpArgs false
set_option maxRecDepth 100000
set_option maxHeartbeats 4000000
section
variable (f : Int) (u : Int) (rows : List (authn_pair × Bool)) (l : List aE) (tw : Bool) (w : aW)
abbrev Zgx : List SV := [dI w.f_Signer, dB w.f_Signed, dI w.f_M.f_Kind, dI w.f_M.f_View, dI w.f_M.f_Seq, dI w.f_M.f_Client, dI w.f_M.f_Stamp, dS w.f_M.f_Digest, .d (dsl tw false kU8 w.f_M.f_Data), dI w.f_M.f_Result.f_Code, dI w.f_M.f_Result.f_Stage, .d (dsl tw false (kE tw) w.f_M.f_Batch), .d (dsl tw false (kE tw) w.f_M.f_Pres), .d (dsl tw false (kC tw) w.f_M.f_Certs)]
abbrev Zgy : HS := .live (.box 98 [dI (3 * f + 1), dI u, .mref 1])
abbrev Zgz : HS := .live (.box 75 [dB true, dI f, dI u, .own 3 (kE false).sz 0 l.length])
abbrev Zh0 : List SV := [dI w.f_Signer, dU (encB w.f_M)]
abbrev Zh1 : List AV := [.tv (.agg [.ptr 0 0, .ptr 2 0]), .tv (.agg (Zgx tw w)), pv 4 0, pv 5 0, pv 6 0, pv 7 0, aa, aa, aa, aa, aa, aa, aa, vB w.f_Signed]
abbrev Zh2 : St := ⟨(Zh1 tw w), [(Zgy f u), .live (mpK f_authn_pair kBool rows), (Zgz f u l), .live (arrK 35 (kE false) l), .live (.box 31 [.ptr 0 0, .ptr 2 0]), .live (.box 71 (Zgx tw w)), .live (.box 35 (Zh0 w)), .live (.box 35 (Zh0 w))]⟩
end
theorem law_said (f : Int) (u : Int) (rows : List (authn_pair × Bool)) (l : List aE) (tw : Bool) (w : aW) (hf : 0 ≤ f ∧ f ≤ 2) (hu : 0 ≤ u ∧ u ≤ 8) (hrl : rows = tabM l) (hl : l.length ≤ 1000000) (hs : -9223372036854775808 ≤ w.f_Signer ∧ w.f_Signer ≤ 9223372036854775807) (hm : okM w.f_M) : Holds Tryz.prog 26 ⟨[.tv (.agg [.ptr 0 0, .ptr 2 0]), .tv (.agg [dI w.f_Signer, dB w.f_Signed, dI w.f_M.f_Kind, dI w.f_M.f_View, dI w.f_M.f_Seq, dI w.f_M.f_Client, dI w.f_M.f_Stamp, dS w.f_M.f_Digest, .d (dsl tw false kU8 w.f_M.f_Data), dI w.f_M.f_Result.f_Code, dI w.f_M.f_Result.f_Stage, .d (dsl tw false (kE tw) w.f_M.f_Batch), .d (dsl tw false (kE tw) w.f_M.f_Pres), .d (dsl tw false (kC tw) w.f_M.f_Certs)])], [.box 98 [dI (3 * f + 1), dI u, .mref 1], mpK f_authn_pair kBool rows, .box 75 [dB true, dI f, dI u, .own 3 (kE false).sz 0 l.length], arrK 35 (kE false) l], .tv (.agg [dI (saidE w).f_Signer, dU (saidE w).f_Body]), [.live (.box 98 [dI (3 * f + 1), dI u, .mref 1]), .live (mpK f_authn_pair kBool (tabM (saidL f u l w))), .live (.box 75 [dB true, dI f, dI u, .own 4 (kE false).sz 0 (saidL f u l w).length]), .dead, .live (arrK 35 (kE false) (saidL f u l w))]⟩ := by
 refine Holds.of Tryz.func26 rfl (N := 29) Tryz.ntmps26 rfl fun w0 B0 S0 U0 => ?_
 show T _ (mkBase 29 4 w0 S0 U0 B0) ⟨[.tv (.agg [.ptr 0 0, .ptr 2 0]), .tv (.agg (Zgx tw w))], [(Zgy f u), .live (mpK f_authn_pair kBool rows), (Zgz f u l), .live (arrK 35 (kE false) l)]⟩ _ _
 obtain ⟨hm1, hm2, hm3, hm4, hm5, hm6⟩ := hm
 have hbl := encB_len ⟨hm1, hm2, hm3, hm4, hm5, hm6⟩
 refine sR [] ?_
 refine sD [[], [0], [], [2], [2, 3], [0, 1, 2, 3, 4], [], [0, 1, 2, 3, 4, 5, 6]] [hR 4 rfl rfl (rCa (ref12_Encode tw w.f_M (by omega) (by omega) (by omega) (by omega) (by omega) (by omega)) Tryz.func20 [] [(.tmp 9, .tv (.agg [dI w.f_M.f_Kind, dI w.f_M.f_View, dI w.f_M.f_Seq, dI w.f_M.f_Client, dI w.f_M.f_Stamp, dS w.f_M.f_Digest, .d (dsl tw false kU8 w.f_M.f_Data), dI w.f_M.f_Result.f_Code, dI w.f_M.f_Result.f_Stage, .d (dsl tw false (kE tw) w.f_M.f_Batch), .d (dsl tw false (kE tw) w.f_M.f_Pres), .d (dsl tw false (kC tw) w.f_M.f_Certs)]))] 0 0)] ?_
 refine T.seq ?_
 refine sR [] ?_
 by_cases hq1 : w.f_Signed = true
 ·refine cT hq1 ?_
  refine sR [hR 6 rfl rfl (rCa (authn_Sign f u rows w.f_Signer false false (encB w.f_M) ‹_› ‹_› ‹_› (by omega)) Tryz.func51 [0, 1] [(.tmp 15, pv 0 0), (.tmp 17, vI w.f_Signer), (.tmp 19, slV false false kU8 (encB w.f_M))] 2 2)] ?_
  refine xK [hR 6 rfl rfl (rCa (ref03_Sign f u l w.f_Signer false false (encB w.f_M) ‹_› ‹_› ‹_› (by omega) (by omega)) Tryz.func52 [2, 3, 8] [(.tmp 22, pv 2 0), (.tmp 24, vI w.f_Signer), (.tmp 26, slV false false kU8 (encB w.f_M))] 2 3)] ?_
  refine nT ?_
  refine sR [] ?_
  refine T.ret ?_
  exact eX [.c 4 6 35 0 35 [dI w.f_Signer, dU (encB w.f_M)] (.agg (Zh0 w))] ⟨⟨rfl, rfl, by kernel_rfl, by kernel_rfl, .inl ⟨2, wide_35, rfl, Nat.le_of_ble_eq_true rfl⟩⟩, trivial⟩ [0, 1, 2, 3, 8] (cg2 (fun (q1 : Int) (q2 : List UInt8) => (.tv (.agg [dI q1, dU q2]) : AV)) (by rfl) (by rfl)) (ix ⟨⟨rfl, (by have e1 : ((signT f u rows w.f_Signer (encB w.f_M)) : List (authn_pair × Bool)) = (tabM (saidL f u l w)) := (by (rw [hrl, sign_tab, said_yes ‹_›])); have hE := congrArg (fun (q1 : List (authn_pair × Bool)) => (.live (mpK f_authn_pair kBool q1) : HS)) e1; exact Eq.trans (by kernel_rfl) hE)⟩, ⟨⟨rfl, (by have e1 : ((signL f u l w.f_Signer (encB w.f_M)).length : Nat) = (saidL f u l w).length := (by (rw [said_yes ‹_›])); have hE := congrArg (fun (q1 : Nat) => (.live (.box 75 [dB true, dI f, dI u, .own 8 (kE false).sz 0 q1]) : HS)) e1; exact Eq.trans (by kernel_rfl) hE)⟩, ⟨⟨rfl, (by have e1 : ((signL f u l w.f_Signer (encB w.f_M)) : List aE) = (saidL f u l w) := (by (rw [said_yes ‹_›])); have hE := congrArg (fun (q1 : List aE) => (.live (arrK 35 (kE false) q1) : HS)) e1; exact Eq.trans (by kernel_rfl) hE)⟩, trivial⟩⟩⟩)
 replace hq1 := Bool.eq_false_iff.2 hq1
 refine cF hq1 ?_
 refine T.skip (nT ?_)
 refine sR [] ?_
 refine T.ret ?_
 refine eN (Zh2 f u rows l tw w) ?_
 refine Ends.turn (s' := ⟨(Zh1 tw w), [(Zgy f u), .live (mpK f_authn_pair kBool rows), .live (.box 75 [dB true, dI f, dI u, .own 8 (kE false).sz 0 l.length]), .dead, .live (.box 31 [.ptr 0 0, .ptr 2 0]), .live (.box 71 (Zgx tw w)), .live (.box 35 (Zh0 w)), .live (.box 35 (Zh0 w)), .live (arrK 35 (kE false) l)]⟩) (fun _ _ hG => Gs.move (s := (Zh2 f u rows l tw w)) 3 8 (o := arrK 35 (kE false) l) rfl rfl rfl (kk2 (kk4 (kk8 trivial))) ⟨(.inr (.inr ⟨by decide, by decide, (.inl rfl)⟩)), ⟨(.inr (.inr ⟨by decide, by decide, (.inl rfl)⟩)), ⟨(.inr (.inr ⟨by decide, by decide, (.inr ⟨rfl, ⟨.inl rfl, (kk2 ⟨(.inr rfl), trivial⟩)⟩⟩)⟩)), ⟨(.inl ⟨rfl, rfl⟩), ⟨(.inr (.inr ⟨by decide, by decide, (.inl rfl)⟩)), ⟨(.inr (.inr ⟨by decide, by decide, (.inl rfl)⟩)), ⟨(.inr (.inr ⟨by decide, by decide, (.inl rfl)⟩)), ⟨(.inr (.inr ⟨by decide, by decide, (.inl rfl)⟩)), ⟨(.inr (.inl ⟨rfl, rfl⟩)), trivial⟩⟩⟩⟩⟩⟩⟩⟩⟩ hG) ?_
 exact eX [.c 4 6 35 0 35 [dI w.f_Signer, dU (encB w.f_M)] (.agg (Zh0 w))] ⟨⟨rfl, rfl, by kernel_rfl, by kernel_rfl, .inl ⟨2, wide_35, rfl, Nat.le_of_ble_eq_true rfl⟩⟩, trivial⟩ [0, 1, 2, 3, 8] (cg2 (fun (q1 : Int) (q2 : List UInt8) => (.tv (.agg [dI q1, dU q2]) : AV)) (by rfl) (by rfl)) (ix ⟨⟨rfl, (by have e1 : (rows : List (authn_pair × Bool)) = (tabM (saidL f u l w)) := (by (rw [hrl, said_no (by exact nbB ‹_›)])); have hE := congrArg (fun (q1 : List (authn_pair × Bool)) => (.live (mpK f_authn_pair kBool q1) : HS)) e1; exact Eq.trans (by kernel_rfl) hE)⟩, ⟨⟨rfl, (by have e1 : (l.length : Nat) = (saidL f u l w).length := (by (rw [said_no (by exact nbB ‹_›)])); have hE := congrArg (fun (q1 : Nat) => (.live (.box 75 [dB true, dI f, dI u, .own 8 (kE false).sz 0 q1]) : HS)) e1; exact Eq.trans (by kernel_rfl) hE)⟩, ⟨⟨rfl, (by have e1 : (l : List aE) = (saidL f u l w) := (by (rw [said_no (by exact nbB ‹_›)])); have hE := congrArg (fun (q1 : List aE) => (.live (arrK 35 (kE false) q1) : HS)) e1; exact Eq.trans (by kernel_rfl) hE)⟩, trivial⟩⟩⟩)
end Go.Proofs.YtalapplihdmenaaGreat.Q
namespace Go.Proofs.YtalapplihdmenaaGreat.Q
set_option linter.unusedVariables false
set_option linter.unusedSimpArgs false
set_option maxRecDepth 100000
def okEv (N : Int) (e : aE) : Prop := i64R e.f_Signer ∧ e.f_Body.length ≤ 4294967295 ∧ ((e.f_Body.length : Nat) : Int) ≤ N
theorem ev_back {N : Int} {e : aE} (h : okEv N e) (r : List UInt8) : evV N (envB e ++ r) 0 = e ∧ evR N (envB e ++ r) 0 = r ∧ evE N (envB e ++ r) 0 = 0 := by
  obtain ⟨h1, h2, h3⟩ := h
  obtain ⟨a1, a2, a3⟩ := back_intX h1 (bytesB e.f_Body ++ r)
  obtain ⟨b1, b2, b3⟩ := back_bytesM h2 r h3
  unfold evV evR evE envB
  rw [List.append_assoc, a1, a2, a3, b1, b2, b3]
  exact ⟨rfl, rfl, rfl⟩
theorem cnt_of {n : Nat} (h : n ≤ 15) : cntN ((n : Nat) : Int) = n := by unfold cntN; omega
theorem runL_back {N : Int} {l : List aE} (hl : l.length ≤ 15) (h : ∀ e, e ∈ l → okEv N e) (r : List UInt8) : ∀ k, k ≤ l.length → runL N (listB l ++ r) 0 k = ⟨envsB (l.drop k) ++ r, 0, l.take k⟩
  | 0, _ => by
    obtain ⟨a1, a2, a3⟩ := back_cntM (most := 15) ((l.length : Nat) : Int) (envsB l ++ r) (by rw [cnt_of hl]; omega)
    unfold runL listB
    rw [List.append_assoc, a2, a3]
    rfl
  | k + 1, hk => by
    rw [runL, runL_back hl h r k (by omega)]
    have e0 : l.drop k = l.getD k zE :: l.drop (k + 1) := by rw [List.drop_eq_getElem_cons (by omega), List.getD_eq_getElem?_getD, List.getElem?_eq_getElem (by omega)]; rfl
    have e1 : envsB (l.drop k) ++ r = envB (l.getD k zE) ++ (envsB (l.drop (k + 1)) ++ r) := by rw [e0, show envsB (l.getD k zE :: l.drop (k + 1)) = envB (l.getD k zE) ++ envsB (l.drop (k + 1)) from rfl, List.append_assoc]
    obtain ⟨b1, b2, b3⟩ := ev_back (h _ (getD_mem (z := zE) (by omega : k < l.length))) (envsB (l.drop (k + 1)) ++ r)
    unfold stepL
    simp only [e1, b1, b2, b3]
    rw [← tk_succ (z := zE) (by omega)]
theorem finL_back {N : Int} {l : List aE} (hl : l.length ≤ 15) (h : ∀ e, e ∈ l → okEv N e) (r : List UInt8) : finL N (listB l ++ r) 0 = ⟨r, 0, l⟩ := by
  obtain ⟨a1, a2, a3⟩ := back_cntM (most := 15) ((l.length : Nat) : Int) (envsB l ++ r) (by rw [cnt_of hl]; omega)
  have e : rdC (listB l ++ r) 0 15 = l.length := by unfold listB; rw [List.append_assoc, a1, cnt_of hl]
  unfold finL
  rw [e, runL_back hl h r l.length (Nat.le_refl _), List.drop_of_length_le (Nat.le_refl _), List.take_of_length_le (Nat.le_refl _)]
  rfl
def okCt (N : Int) (c : aC) : Prop := okEv N c.f_Pre ∧ c.f_Votes.length ≤ 15 ∧ ∀ e, e ∈ c.f_Votes → okEv N e
theorem runC_back {N : Int} {l : List aC} (hl : l.length ≤ 8) (h : ∀ c, c ∈ l → okCt N c) (r : List UInt8) : ∀ k, k ≤ l.length → runC N (certsB l ++ r) 0 k = ⟨crtsB (l.drop k) ++ r, 0, l.take k⟩
  | 0, _ => by
    obtain ⟨a1, a2, a3⟩ := back_cntM (most := 8) ((l.length : Nat) : Int) (crtsB l ++ r) (by rw [cnt_of (by omega)]; omega)
    unfold runC certsB
    rw [List.append_assoc, a2, a3]
    rfl
  | k + 1, hk => by
    rw [runC, runC_back hl h r k (by omega)]
    have e0 : l.drop k = l.getD k zC :: l.drop (k + 1) := by rw [List.drop_eq_getElem_cons (by omega), List.getD_eq_getElem?_getD, List.getElem?_eq_getElem (by omega)]; rfl
    have e1 : crtsB (l.drop k) ++ r = envB (l.getD k zC).f_Pre ++ (listB (l.getD k zC).f_Votes ++ (crtsB (l.drop (k + 1)) ++ r)) := by rw [e0, show crtsB (l.getD k zC :: l.drop (k + 1)) = (envB (l.getD k zC).f_Pre ++ listB (l.getD k zC).f_Votes) ++ crtsB (l.drop (k + 1)) from rfl, List.append_assoc, List.append_assoc]
    obtain ⟨h1, h2, h3⟩ := h _ (getD_mem (z := zC) (by omega : k < l.length))
    obtain ⟨b1, b2, b3⟩ := ev_back h1 (listB (l.getD k zC).f_Votes ++ (crtsB (l.drop (k + 1)) ++ r))
    have c1 := finL_back h2 h3 (crtsB (l.drop (k + 1)) ++ r)
    unfold stepC
    simp only [e1, b1, b2, b3, c1]
    rw [← show l.take (k + 1) = l.take k ++ [⟨(l.getD k zC).f_Pre, (l.getD k zC).f_Votes⟩] from tk_succ (z := zC) (by omega)]
theorem finC_back {N : Int} {l : List aC} (hl : l.length ≤ 8) (h : ∀ c, c ∈ l → okCt N c) (r : List UInt8) : finC N (certsB l ++ r) 0 = ⟨r, 0, l⟩ := by
  obtain ⟨a1, a2, a3⟩ := back_cntM (most := 8) ((l.length : Nat) : Int) (crtsB l ++ r) (by rw [cnt_of (by omega)]; omega)
  have e : rdC (certsB l ++ r) 0 8 = l.length := by unfold certsB; rw [List.append_assoc, a1, cnt_of (by omega)]
  unfold finC
  rw [e, runC_back hl h r l.length (Nat.le_refl _), List.drop_of_length_le (Nat.le_refl _), List.take_of_length_le (Nat.le_refl _)]
  rfl
structure rngM (M N : Int) (m : aM) : Prop where
  vw : i64R m.f_View
  sq : i64R m.f_Seq
  cl : i64R m.f_Client
  st : i64R m.f_Stamp
  co : i64R m.f_Result.f_Code
  sg : i64R m.f_Result.f_Stage
  dg : m.f_Digest.length ≤ 4294967295 ∧ ((m.f_Digest.length : Nat) : Int) ≤ M
  da : m.f_Data.length ≤ 4294967295 ∧ ((m.f_Data.length : Nat) : Int) ≤ M
  ba : m.f_Batch.length ≤ 15 ∧ ∀ e, e ∈ m.f_Batch → okEv N e
  pr : m.f_Pres.length ≤ 15 ∧ ∀ e, e ∈ m.f_Pres → okEv N e
  ce : m.f_Certs.length ≤ 8 ∧ ∀ c, c ∈ m.f_Certs → okCt N c
def selM (m : aM) (j : Nat) : aM := ⟨m.f_Kind, if 0 < j then m.f_View else 0, if 1 < j then m.f_Seq else 0, if 2 < j then m.f_Client else 0, if 2 < j then m.f_Stamp else 0, if 3 < j then m.f_Digest else [], if 4 < j then m.f_Data else [], if 5 < j then m.f_Result else ⟨0, 0⟩, if 6 < j then m.f_Batch else [], if 7 < j then m.f_Pres else [], if 8 < j then m.f_Certs else []⟩
theorem step_back {M N : Int} {m : aM} (h : rngM M N m) (r : List UInt8) {j : Nat} (hj : j ≤ 8) : stepM M N ⟨fldM m j ++ r, 0, selM m j⟩ j = ⟨r, 0, selM m (j + 1)⟩ := by
  rcases (by omega : j = 0 ∨ j = 1 ∨ j = 2 ∨ j = 3 ∨ j = 4 ∨ j = 5 ∨ j = 6 ∨ j = 7 ∨ j = 8) with q | q | q | q | q | q | q | q | q <;> subst q
  · obtain ⟨a1, a2, a3⟩ := back_intX h.vw r
    simp only [stepM, fldM, a1, a2, a3]; rfl
  · obtain ⟨a1, a2, a3⟩ := back_intX h.sq r
    simp only [stepM, fldM, a1, a2, a3]; rfl
  · obtain ⟨a1, a2, a3⟩ := back_intX h.cl (intB m.f_Stamp ++ r)
    obtain ⟨b1, b2, b3⟩ := back_intX h.st r
    simp only [stepM, fldM, List.append_assoc, a1, a2, a3, b1, b2, b3]; rfl
  · obtain ⟨a1, a2, a3⟩ := back_bytesM h.dg.1 r h.dg.2
    simp only [stepM, fldM, a1, a2, a3]; rfl
  · obtain ⟨a1, a2, a3⟩ := back_bytesM h.da.1 r h.da.2
    simp only [stepM, fldM, a1, a2, a3]; rfl
  · obtain ⟨a1, a2, a3⟩ := back_intX h.co (intB m.f_Result.f_Stage ++ r)
    obtain ⟨b1, b2, b3⟩ := back_intX h.sg r
    simp only [stepM, fldM, List.append_assoc, a1, a2, a3, b1, b2, b3]; rfl
  · have a := finL_back h.ba.1 h.ba.2 r
    simp only [stepM, fldM, a]; rfl
  · have a := finL_back h.pr.1 h.pr.2 r
    simp only [stepM, fldM, a]; rfl
  · have a := finC_back h.ce.1 h.ce.2 r
    simp only [stepM, fldM, a]; rfl
def sufN (m : aM) : Nat → List UInt8
  | 0 => []
  | d + 1 => (if bitH (hasM m.f_Kind) (8 - d) = true then fldM m (8 - d) else []) ++ sufN m d
theorem suf_enc (m : aM) : ∀ d, d ≤ 9 → encJ m (9 - d) ++ sufN m d = encJ m 9
  | 0, _ => List.append_nil _
  | d + 1, hd => by
    have h := suf_enc m d (by omega)
    rw [show 9 - d = (8 - d) + 1 by omega, encJ] at h
    rw [show 9 - (d + 1) = 8 - d by omega, sufN, ← List.append_assoc, h]
theorem num_0 {n lo : Int} {b : Bool} (h : numM n b lo) (hb : ¬ b = true) : n = 0 := by unfold numM at h; rwa [if_neg hb] at h
theorem suf_at (m : aM) {j : Nat} (hj : j ≤ 8) : sufN m (9 - j) = (if bitH (hasM m.f_Kind) j = true then fldM m j else []) ++ sufN m (8 - j) := by
  obtain ⟨d, hd⟩ : ∃ d, 8 - j = d := ⟨_, rfl⟩
  rw [show 9 - j = d + 1 by omega, sufN, show 8 - d = j by omega, hd]
theorem sel_skip {m : aM} (h : wellM m) {j : Nat} (hj : j ≤ 8) (hb : ¬ bitH (hasM m.f_Kind) j = true) : selM m (j + 1) = selM m j := by
  obtain ⟨a1, a2, a3, a4, a5, a6, a7, a8, a9, b1, b2, b3, b4, b5, b6⟩ := (well_iff m).1 h
  obtain ⟨_, _, l3, l4⟩ := lo_is m.f_Kind
  rcases (by omega : j = 0 ∨ j = 1 ∨ j = 2 ∨ j = 3 ∨ j = 4 ∨ j = 5 ∨ j = 6 ∨ j = 7 ∨ j = 8) with q | q | q | q | q | q | q | q | q <;> subst q
  · have e : m.f_View = 0 := num_0 a2 hb
    unfold selM; rw [e]; rfl
  · have e : m.f_Seq = 0 := num_0 a3 hb
    unfold selM; rw [e]; rfl
  · have e : m.f_Client = 0 := num_0 a4 hb
    have e' : m.f_Stamp = 0 := num_0 a5 hb
    unfold selM; rw [e, e']; rfl
  · have e : m.f_Digest = [] := Classical.byContradiction fun q => a7 ⟨hb, q⟩
    unfold selM; rw [e]; rfl
  · have e : m.f_Data = [] := List.eq_nil_of_length_eq_zero (by have := mt (fun q => (⟨hb, q⟩ : ¬ (hasM m.f_Kind).f_Data = true ∧ _)) a8; omega)
    unfold selM; rw [e]; rfl
  · have e : m.f_Result = z_api_Result := Classical.byContradiction fun q => a9 ⟨hb, q⟩
    unfold selM; rw [e]; rfl
  · have e : m.f_Batch = [] := List.eq_nil_of_length_eq_zero (by rw [l4 hb] at b1; omega)
    unfold selM; rw [e]; rfl
  · have e : m.f_Pres = [] := List.eq_nil_of_length_eq_zero (by have : maxP (hasM m.f_Kind) = 0 := if_neg hb; rw [this] at b2; omega)
    unfold selM; rw [e]; rfl
  · have e : m.f_Certs = [] := List.eq_nil_of_length_eq_zero (by have := mt (fun q => (⟨hb, q⟩ : ¬ (hasM m.f_Kind).f_Certs = true ∧ _)) b4; omega)
    unfold selM; rw [e]; rfl
theorem run_back {M N : Int} {m : aM} (h : rngM M N m) (hw : wellM m) : ∀ j, j ≤ 9 → runM M N (sufN m 9) 0 m.f_Kind j = ⟨sufN m (9 - j), 0, selM m j⟩
  | 0, _ => rfl
  | j + 1, hj => by
    have ih := run_back h hw j (by omega)
    rw [suf_at m (by omega)] at ih
    rw [show 9 - (j + 1) = 8 - j by omega]
    by_cases hb : bitH (hasM m.f_Kind) j = true
    · rw [run_yes rfl hb, ih, if_pos hb, step_back h _ (by omega)]
    · rw [run_no hb, ih, if_neg hb, List.nil_append, sel_skip hw (by omega) hb]
theorem fin_back {M N : Int} {m : aM} (h : rngM M N m) (hw : wellM m) : finM M N (encJ m 9) = ⟨[], 0, m⟩ := by
  have hk : i64R m.f_Kind := by have := hw.1; unfold okK at this; unfold i64R; omega
  have e := suf_enc m 9 (Nat.le_refl _)
  have e : intB m.f_Kind ++ sufN m 9 = encJ m 9 := e
  obtain ⟨a1, a2, a3⟩ := back_intX hk (sufN m 9)
  unfold finM
  rw [← e, a1, a2, a3, run_back h hw 9 (Nat.le_refl _)]
  cases m; rfl
theorem dec_back {m : aM} (hw : wellM m) (hl : (encJ m 9).length ≤ 16777216) (h : rngM (((encJ m 9).length : Nat) : Int) 16777216 m) : decV (encB m) = m ∧ decE (encB m) = 0 := by
  have hk : i64R m.f_Kind := by have := hw.1; unfold okK at this; unfold i64R; omega
  have e := fin_back h hw
  have hi : rdI (encJ m 9) 0 = m.f_Kind := by
    have e := suf_enc m 9 (Nat.le_refl _)
    have e : intB m.f_Kind ++ sufN m 9 = encJ m 9 := e
    rw [← e]; exact (back_intX hk _).1
  have ho : okD (((encJ m 9).length : Nat) : Int) 16777216 (encJ m 9) := ⟨hl, by rw [hi]; exact hw.1, by rw [e]; rfl, by rw [e]; exact hw⟩
  have eb : encB m = encJ m 9 := if_pos hw
  rw [eb]
  obtain ⟨d1, d2⟩ := dec_yes ho
  exact ⟨d1.trans (by rw [e]), d2⟩
theorem dec_nil : decE [] = 12 ∧ decV [] = zM := by
  have h : ¬ okD ((([] : List UInt8).length : Nat) : Int) 16777216 [] := fun q => by
    have := q.2.1
    rw [show rdI [] 0 = 0 from rfl] at this
    exact absurd this (by decide)
  have := dec_no h (by simp)
  exact ⟨this.2, this.1⟩
theorem enc_bad {m : aM} (hw : ¬ wellM m) : decE (encB m) = 12 ∧ decV (encB m) = zM := by
  rw [show encB m = [] from if_neg hw]; exact dec_nil
theorem enc_len_le (m : aM) : (encJ m 9).length ≤ 80 + m.f_Digest.length + m.f_Data.length + (listB m.f_Batch).length + (listB m.f_Pres).length + (certsB m.f_Certs).length := by
  have s : ∀ j, (encJ m (j + 1)).length ≤ (encJ m j).length + (fldM m j).length := fun j => by
    rw [encJ, List.length_append]
    split
    · exact Nat.le_refl _
    · simp
  have h0 : (encJ m 0).length = 8 := int_len _
  have f0 : (fldM m 0).length = 8 := int_len _
  have f1 : (fldM m 1).length = 8 := int_len _
  have f2 : (fldM m 2).length = 16 := by simp only [fldM, List.length_append, int_len]
  have f3 : (fldM m 3).length = 4 + m.f_Digest.length := (bytes_len _).trans (Nat.add_comm _ _)
  have f4 : (fldM m 4).length = 4 + m.f_Data.length := (bytes_len _).trans (Nat.add_comm _ _)
  have f5 : (fldM m 5).length = 16 := by simp only [fldM, List.length_append, int_len]
  have f6 : (fldM m 6).length = (listB m.f_Batch).length := rfl
  have f7 : (fldM m 7).length = (listB m.f_Pres).length := rfl
  have f8 : (fldM m 8).length = (certsB m.f_Certs).length := rfl
  have s0 := s 0
  have s1 := s 1
  have s2 := s 2
  have s3 := s 3
  have s4 := s 4
  have s5 := s 5
  have s6 := s 6
  have s7 := s 7
  have s8 := s 8
  simp only [Nat.reduceAdd] at s0 s1 s2 s3 s4 s5 s6 s7 s8
  omega
theorem num_i64 {n lo : Int} {b : Bool} (h : numM n b lo) (hl : 0 ≤ lo) : i64R n := by
  unfold numM at h
  unfold i64R
  split at h <;> omega
theorem fst_0 (k : Int) : 0 ≤ fstV k ∧ 0 ≤ fstS k := by
  unfold fstV fstS
  constructor
  · split
    · omega
    · split <;> omega
  · split
    · omega
    · split
      · omega
      · split <;> omega
theorem rng_of {m : aM} (hw : wellM m) (h1 : i64R m.f_Result.f_Code) (h2 : i64R m.f_Result.f_Stage) (hl : (encJ m 9).length ≤ 16777216) (hb : ∀ e, e ∈ m.f_Batch → i64R e.f_Signer ∧ e.f_Body.length ≤ 16777216) (hp : ∀ e, e ∈ m.f_Pres → i64R e.f_Signer ∧ e.f_Body.length ≤ 16777216) (hc : ∀ c, c ∈ m.f_Certs → (i64R c.f_Pre.f_Signer ∧ c.f_Pre.f_Body.length ≤ 16777216) ∧ ∀ e, e ∈ c.f_Votes → i64R e.f_Signer ∧ e.f_Body.length ≤ 16777216) : rngM (((encJ m 9).length : Nat) : Int) 16777216 m := by
  obtain ⟨a1, a2, a3, a4, a5, a6, a7, a8, a9, b1, b2, b3, b4, b5, b6⟩ := (well_iff m).1 hw
  have hf := fst_0 m.f_Kind
  have ev : ∀ e : aE, i64R e.f_Signer ∧ e.f_Body.length ≤ 16777216 → okEv 16777216 e := fun e h => ⟨h.1, by omega, by omega⟩
  have hB : maxB m.f_Kind (hasM m.f_Kind) ≤ 7 := by
    unfold maxB; split
    · omega
    · split <;> omega
  have hP : maxP (hasM m.f_Kind) ≤ 8 := by unfold maxP; split <;> omega
  refine ⟨num_i64 a2 hf.1, num_i64 a3 hf.2, num_i64 a4 (by omega), num_i64 a5 (by omega), h1, h2, ?_, ?_, ⟨by omega, fun e he => ev e (hb e he)⟩, ⟨by omega, fun e he => ev e (hp e he)⟩, ⟨by omega, fun c h => ⟨ev _ (hc c h).1, ?_, fun e he => ev e ((hc c h).2 e he)⟩⟩⟩
  · by_cases hbit : bitH (hasM m.f_Kind) 3 = true
    · have := enc_room (m := m) rfl hbit (by decide)
      rw [show (fldM m 3).length = 4 + m.f_Digest.length from (bytes_len _).trans (Nat.add_comm _ _)] at this
      exact ⟨by omega, by omega⟩
    · have e : m.f_Digest = [] := Classical.byContradiction fun q => a7 ⟨hbit, q⟩
      rw [e]; exact ⟨Nat.zero_le _, Int.natCast_nonneg _⟩
  · by_cases hbit : bitH (hasM m.f_Kind) 4 = true
    · have := enc_room (m := m) rfl hbit (by decide)
      rw [show (fldM m 4).length = 4 + m.f_Data.length from (bytes_len _).trans (Nat.add_comm _ _)] at this
      exact ⟨by omega, by omega⟩
    · have e : m.f_Data = [] := List.eq_nil_of_length_eq_zero (by have := mt (fun q => (⟨hbit, q⟩ : ¬ (hasM m.f_Kind).f_Data = true ∧ _)) a8; omega)
      rw [e]; exact ⟨Nat.zero_le _, Int.natCast_nonneg _⟩
  · exact Nat.le_trans (b6 c h) (by decide)
end Go.Proofs.YtalapplihdmenaaGreat.Q
namespace Go.Proofs.YtalapplihdmenaaGreat.Q
set_option linter.unusedVariables false
set_option linter.unusedSimpArgs false
set_option maxRecDepth 100000
def fewM (m : aM) : Prop := m.f_Batch.length + m.f_Pres.length ≤ 10 ∧ m.f_Certs = [] ∧ m.f_Digest.length ≤ 3000 ∧ m.f_Data.length ≤ 2000 ∧ (∀ e, e ∈ m.f_Batch → e.f_Body.length ≤ 2000) ∧ ∀ e, e ∈ m.f_Pres → e.f_Body.length ≤ 2000
instance (m : aM) : Decidable (fewM m) := by unfold fewM; infer_instance
theorem few_len {m : aM} (h : fewM m) : (encJ m 9).length ≤ 30000 := by
  obtain ⟨h1, h2, h3, h4, h5, h6⟩ := h
  have a := enc_len_le m
  have b1 := envs_le h5
  have b2 := envs_le h6
  have c1 := Nat.mul_le_mul_right (12 + 2000) (show m.f_Batch.length + m.f_Pres.length ≤ 10 from h1)
  rw [Nat.add_mul] at c1
  rw [list_len, list_len, h2] at a
  have : (certsB []).length = 4 := rfl
  omega
theorem few_okM {m : aM} (h : fewM m) : okM m := by
  have := few_len h
  obtain ⟨h1, h2, h3, h4, h5, h6⟩ := h
  exact ⟨by omega, by omega, by omega, by rw [h2]; exact Nat.zero_le _, by omega, by omega⟩
theorem few_encB {m : aM} (h : fewM m) : (encB m).length ≤ 30000 := by
  have := few_len h
  unfold encB
  split
  · exact this
  · simp
def reqM : aM := ⟨1, 0, 0, 1000, 1, [], [], z_api_Result, [], [], []⟩
def reqE : aE := ⟨1000, encB reqM⟩
def preM (c : quaestorlaw13_Case) : aM := ⟨2, c.f_View, c.f_Seq, 0, 0, bchB [reqE], [], z_api_Result, [reqE], [], []⟩
def priC (f : Int) (c : quaestorlaw13_Case) : Int := if c.f_Primary < 0 then primaryA f c.f_View else c.f_Primary
def otherD : List UInt8 := [97, 110, 111, 116, 104, 101, 114, 32, 111, 110, 101]
def votM (c : quaestorlaw13_Case) (v : quaestorlaw13_Vote) : aM := ⟨v.f_Kind, if v.f_Kind = 5 then 0 else c.f_View + v.f_View.tmod 3, c.f_Seq + v.f_Seq.tmod 3, 0, 0, if v.f_Other = true then otherD else bchB [reqE], [], z_api_Result, [], [], []⟩
def votW (c : quaestorlaw13_Case) (v : quaestorlaw13_Vote) : aW := ⟨v.f_Signer, !v.f_Unsigned, votM c v⟩
def made0 (f u : Int) (l : List aE) (c : quaestorlaw13_Case) : List aE := saidL f u (saidL f u l ⟨1000, true, reqM⟩) ⟨priC f c, true, preM c⟩
def madeW (c : quaestorlaw13_Case) : List aW := c.f_Votes.map (votW c)
def madeL (f u : Int) (l : List aE) (c : quaestorlaw13_Case) (k : Nat) : List aE := sayL f u (made0 f u l c) (madeW c) k
def madeC (f : Int) (c : quaestorlaw13_Case) : aC := ⟨⟨priC f c, encB (preM c)⟩, (madeW c).map saidE⟩
def bndC (c : quaestorlaw13_Case) : Prop := c.f_View ≥ 0 ∧ c.f_View < 1073741824 ∧ c.f_Seq > 0 ∧ c.f_Seq < 1073741824 ∧ ((c.f_Votes.length : Nat) : Int) ≤ 12
instance (c : quaestorlaw13_Case) : Decidable (bndC c) := by unfold bndC; infer_instance
def rngC (c : quaestorlaw13_Case) : Prop := i64R c.f_View ∧ i64R c.f_Seq ∧ i64R c.f_Primary ∧ ∀ v, v ∈ c.f_Votes → i64R v.f_Signer ∧ i64R v.f_Kind ∧ i64R v.f_View ∧ i64R v.f_Seq
theorem bch_len : (bchB [reqE]).length ≤ 100 := by decide +kernel
theorem small_len {m : aM} (hd : m.f_Digest.length ≤ 100) (ha : m.f_Data = []) (hb : m.f_Batch = [] ∨ m.f_Batch = [reqE]) (hp : m.f_Pres = []) (hc : m.f_Certs = []) : fewM m := by
  refine ⟨?_, hc, by omega, by rw [ha]; exact Nat.zero_le _, ?_, fun e he => by rw [hp] at he; cases he⟩
  · rw [hp]
    rcases hb with h | h <;> rw [h] <;> simp
  · rcases hb with h | h <;> rw [h]
    · exact fun e he => by cases he
    · intro e he
      rw [List.mem_singleton] at he
      subst he
      exact Nat.le_trans (few_encB (m := reqM) ⟨by decide, rfl, by decide, by decide, (fun e he => by cases he), fun e he => by cases he⟩ |> fun h => (show (encB reqM).length ≤ 2000 by decide +kernel)) (Nat.le_refl _)
theorem few_req : fewM reqM := small_len (by decide) rfl (.inl rfl) rfl rfl
theorem few_pre (c : quaestorlaw13_Case) : fewM (preM c) := small_len bch_len rfl (.inr rfl) rfl rfl
theorem few_vot (c : quaestorlaw13_Case) (v : quaestorlaw13_Vote) : fewM (votM c v) := small_len (by
  show (if v.f_Other = true then otherD else bchB [reqE]).length ≤ 100
  split
  · decide
  · exact bch_len) rfl (.inl rfl) rfl rfl
theorem made_lenW (c : quaestorlaw13_Case) : (madeW c).length = c.f_Votes.length := List.length_map ..
theorem made_getW {c : quaestorlaw13_Case} {k : Nat} (hk : k < c.f_Votes.length) : (madeW c).getD k zW = votW c (c.f_Votes.getD k z_quaestorlaw13_Vote) := by
  unfold madeW
  rw [List.getD_eq_getElem?_getD, List.getD_eq_getElem?_getD, List.getElem?_map, List.getElem?_eq_getElem hk]; rfl
theorem made0_len (f u : Int) (l : List aE) (c : quaestorlaw13_Case) : (made0 f u l c).length ≤ l.length + 2 := by
  unfold made0
  have a := said_len f u l ⟨1000, true, reqM⟩
  have b := said_len f u (saidL f u l ⟨1000, true, reqM⟩) ⟨priC f c, true, preM c⟩
  omega
theorem made_len (f u : Int) (l : List aE) (c : quaestorlaw13_Case) (k : Nat) : (madeL f u l c k).length ≤ l.length + 2 + k := by
  have := say_len f u (made0 f u l c) (madeW c) k
  have := made0_len f u l c
  unfold madeL
  omega
theorem pri_ok {f : Int} {c : quaestorlaw13_Case} (hf : 0 ≤ f ∧ f ≤ 2) (hr : rngC c) (hb : bndC c) : i64R (priC f c) := by
  unfold priC
  split
  · unfold primaryA i64R
    have := hb.1
    rw [if_neg (by omega)]
    have h1 := Int.emod_nonneg c.f_View (b := 3 * f + 1) (by omega)
    have h2 := Int.emod_lt_of_pos c.f_View (b := 3 * f + 1) (by omega)
    omega
  · exact hr.2.2.1
theorem made_okE {c : quaestorlaw13_Case} (hr : rngC c) (hb : bndC c) : okEs ((madeW c).map saidE) := ⟨by rw [List.length_map, made_lenW]; have := hb.2.2.2.2; omega, fun e he => by
  obtain ⟨w, hw, rfl⟩ := List.mem_map.1 he
  obtain ⟨v, hv, rfl⟩ := List.mem_map.1 hw
  exact ⟨(hr.2.2.2 v hv).1, Nat.le_trans (few_encB (few_vot c v)) (by decide)⟩⟩
theorem tmod3 (a : Int) : -3 < a.tmod 3 ∧ a.tmod 3 < 3 := by
  rcases Int.le_total 0 a with h | h
  · rw [Int.tmod_eq_emod_of_nonneg h]; omega
  · have e : a.tmod 3 = -((-a).tmod 3) := by rw [Int.neg_tmod, Int.neg_neg]
    rw [e, Int.tmod_eq_emod_of_nonneg (by omega)]; omega
theorem made_succ {f u : Int} {l : List aE} {c : quaestorlaw13_Case} {k : Nat} (hk : k < c.f_Votes.length) : madeL f u l c (k + 1) = saidL f u (madeL f u l c k) (votW c (c.f_Votes.getD k z_quaestorlaw13_Vote)) := by
  unfold madeL
  rw [say_succ (by rw [made_lenW]; exact hk), made_getW hk]
theorem made_says {c : quaestorlaw13_Case} {k : Nat} (hk : k < c.f_Votes.length) : ((madeW c).take (k + 1)).map saidE = ((madeW c).take k).map saidE ++ [saidE (votW c (c.f_Votes.getD k z_quaestorlaw13_Vote))] := by
  rw [says_succ (by rw [made_lenW]; exact hk), made_getW hk]
theorem made_end {c : quaestorlaw13_Case} {k : Nat} (hk : c.f_Votes.length ≤ k) : (madeW c).take k = madeW c := List.take_of_length_le (by rw [made_lenW]; exact hk)
theorem req_envs : (envsB [reqE]).length ≤ 1000000000 := by decide +kernel
theorem made_body (f : Int) (c : quaestorlaw13_Case) : (madeC f c).f_Pre.f_Body.length ≤ 100000000 := Nat.le_trans (few_encB (few_pre c)) (by decide)
def awReq : aW := ⟨1000, true, ⟨1, 0, 0, 1000, 1, [], [111, 112], z_api_Result, [], [], []⟩⟩
def awPre : aW := ⟨0, true, ⟨2, 0, 1, 0, 0, bchB [saidE awReq], [], z_api_Result, [saidE awReq], [], []⟩⟩
def awVot (s : Int) : aW := ⟨s, true, ⟨3, 0, 1, 0, 0, bchB [saidE awReq], [], z_api_Result, [], [], []⟩⟩
def awL (n : Nat) : List aE := sayL (fOf 1) (cOf 1) [] [awReq, awPre, awVot 0, awVot 1, awVot 2] n
def awV : List aE := [saidE (awVot 0), saidE (awVot 1), saidE (awVot 2)]
instance i64R_dec (n : Int) : Decidable (i64R n) := by unfold i64R; infer_instance
instance okEnv_dec (e : aE) : Decidable (okEnv e) := by unfold okEnv; infer_instance
instance okEs_dec (l : List aE) : Decidable (okEs l) := by unfold okEs; infer_instance
instance okM_dec (m : aM) : Decidable (okM m) := by unfold okM; infer_instance
theorem aw_ok : okM awReq.f_M ∧ okM awPre.f_M ∧ okM (awVot 0).f_M ∧ okEs (awV.drop 1) ∧ okEs ((awV.take 2).drop 1) ∧ okEs [awV.getD 1 zE, awV.getD 1 zE] ∧ okEs awV := by decide +kernel
section
variable {C : aE → Int} (hC : ∀ e, C e ≠ 0) {f : Int}
include hC
end
end Go.Proofs.YtalapplihdmenaaGreat.Q
namespace Go.Proofs.YtalapplihdmenaaGreat.Q
set_option linter.unusedVariables false
set_option linter.unusedSimpArgs false
set_option maxRecDepth 100000
theorem env_app {e e' : aE} {p q : List UInt8} (h : i64R e.f_Signer) (h' : i64R e'.f_Signer) (hb : e.f_Body.length ≤ 4294967295) (hb' : e'.f_Body.length ≤ 4294967295) (q0 : envB e ++ p = envB e' ++ q) : e = e' ∧ p = q := by
  unfold envB at q0
  rw [List.append_assoc, List.append_assoc] at q0
  obtain ⟨a1, a2, _⟩ := back_intX h (bytesB e.f_Body ++ p)
  obtain ⟨b1, b2, _⟩ := back_intX h' (bytesB e'.f_Body ++ q)
  have h1 : e.f_Signer = e'.f_Signer := by rw [← a1, ← b1, q0]
  have h2 : bytesB e.f_Body ++ p = bytesB e'.f_Body ++ q := by rw [← a2, ← b2, q0]
  obtain ⟨h3, h4⟩ := bytesB_app hb hb' h2
  exact ⟨by cases e; cases e'; simp_all, h4⟩
theorem env_inj {e e' : aE} (h : i64R e.f_Signer) (h' : i64R e'.f_Signer) (hb : e.f_Body.length ≤ 4294967295) (hb' : e'.f_Body.length ≤ 4294967295) (q : envB e = envB e') : e = e' :=
  (env_app (p := []) (q := []) h h' hb hb' (by rw [List.append_nil, List.append_nil]; exact q)).1
theorem map_env_inj : ∀ {l m : List aE}, (∀ e, e ∈ l → i64R e.f_Signer ∧ e.f_Body.length ≤ 4294967295) → (∀ e, e ∈ m → i64R e.f_Signer ∧ e.f_Body.length ≤ 4294967295) → l.map envB = m.map envB → l = m
  | [], [], _, _, _ => rfl
  | [], _ :: _, _, _, q => by cases q
  | _ :: _, [], _, _, q => by cases q
  | a :: l, b :: m, hl, hm, q => by
    rw [List.map_cons, List.map_cons, List.cons.injEq] at q
    have ha := hl a (List.mem_cons_self ..)
    have hb := hm b (List.mem_cons_self ..)
    rw [env_inj ha.1 hb.1 ha.2 hb.2 q.1, map_env_inj (fun e he => hl e (List.mem_cons_of_mem _ he)) (fun e he => hm e (List.mem_cons_of_mem _ he)) q.2]
theorem bch_inj {l m : List aE} {n : Nat} (hn : n ≤ 1000000) (hl : l.length ≤ 100 ∧ ∀ e, e ∈ l → i64R e.f_Signer ∧ e.f_Body.length ≤ n) (hm : m.length ≤ 100 ∧ ∀ e, e ∈ m → i64R e.f_Signer ∧ e.f_Body.length ≤ n) : bchB l = bchB m ↔ l = m := by
  have a := envs_le fun e he => (hl.2 e he).2
  have b := envs_le fun e he => (hm.2 e he).2
  have a2 : l.length * (12 + n) ≤ 100 * (12 + 1000000) := Nat.mul_le_mul hl.1 (by omega)
  have b2 : m.length * (12 + n) ≤ 100 * (12 + 1000000) := Nat.mul_le_mul hm.1 (by omega)
  have hl1 := hl.1
  have hm1 := hm.1
  unfold bchB
  rw [ofB_inj (by rw [szP_envs]; omega) (by rw [szP_envs]; omega)]
  exact ⟨fun q => map_env_inj (fun e he => ⟨(hl.2 e he).1, by have := (hl.2 e he).2; omega⟩) (fun e he => ⟨(hm.2 e he).1, by have := (hm.2 e he).2; omega⟩) q.2, fun q => by rw [q]; exact ⟨rfl, rfl⟩⟩
theorem op_back {C : aE → Int} {s k : Int} {m : aM} (hl : (encJ m 9).length ≤ 16777216) (hr : wellM m → rngM (((encJ m 9).length : Nat) : Int) 16777216 m) (h : ¬ opE C ⟨s, encB m⟩ k ≠ 0) : decV (encB m) = m ∧ wellM m := by
  have h := Classical.not_not.1 h
  have hd : decE (encB m) = 0 := by
    unfold opE at h
    split at h
    · rename_i q; exact absurd h q
    · split at h
      · cases h
      · rename_i q; exact Classical.not_not.1 q
  by_cases hw : wellM m
  · exact ⟨(dec_back hw hl (hr hw)).1, hw⟩
  · rw [(enc_bad hw).1] at hd; cases hd
theorem pp_open {C : aE → Int} {f : Int} {e : aE} (h : ¬ ppE C f e ≠ 0) : ¬ opE C e 2 ≠ 0 := fun q => h (by unfold ppE; rw [if_pos q]; exact q)
theorem pri_rng {f : Int} (hf : 0 ≤ f ∧ f ≤ 2) (v : Int) : -9223372036854775808 ≤ primaryA f v ∧ primaryA f v ≤ 9223372036854775807 := by
  unfold primaryA
  split
  · omega
  · have h1 := Int.emod_nonneg v (b := 3 * f + 1) (by omega)
    have h2 := Int.emod_lt_of_pos v (b := 3 * f + 1) (by omega)
    omega
def binM (v s : Int) (l : List aE) : aM := ⟨2, v, s, 0, 0, bchB l, [], z_api_Result, l, [], []⟩
theorem bin_len {v s : Int} {l : List aE} (h : l.length ≤ 4 ∧ ∀ e, e ∈ l → i64R e.f_Signer ∧ e.f_Body.length ≤ 30000) : (bchB l).length ≤ 130000 ∧ (encJ (binM v s l) 9).length ≤ 300000 := by
  have a := envs_le fun e he => (h.2 e he).2
  have a2 : l.length * (12 + 30000) ≤ 4 * (12 + 30000) := Nat.mul_le_mul_right _ h.1
  have hd : (bchB l).length ≤ 130000 := by unfold bchB; rw [ofB_len, szP_envs]; have := h.1; omega
  have e := enc_len_le (binM v s l)
  have e1 : (binM v s l).f_Digest = bchB l := rfl
  have e2 : (binM v s l).f_Data = [] := rfl
  have e3 : (binM v s l).f_Batch = l := rfl
  have e4 : (listB (binM v s l).f_Pres).length = 4 := rfl
  have e5 : (certsB (binM v s l).f_Certs).length = 4 := rfl
  have e6 := list_len l
  rw [e1, e2, e3, e4, e5, e6, List.length_nil] at e
  exact ⟨hd, by omega⟩
theorem bin_pp {C : aE → Int} {f s v n : Int} {l : List aE} (h : l.length ≤ 4 ∧ ∀ e, e ∈ l → i64R e.f_Signer ∧ e.f_Body.length ≤ 30000) (hp : ¬ ppE C f ⟨s, encB (binM v n l)⟩ ≠ 0) : ppV C f ⟨s, encB (binM v n l)⟩ = binM v n l := by
  rw [pp_val hp]
  obtain ⟨a, b⟩ := bin_len (v := v) (s := n) h
  refine (op_back (by omega) (fun hw => rng_of hw (show i64R 0 by unfold i64R; decide) (show i64R 0 by unfold i64R; decide) (by omega) (fun e he => ⟨(h.2 e he).1, Nat.le_trans (h.2 e he).2 (by decide)⟩) (fun e he => by cases he) (fun c hc => by cases hc)) (pp_open hp)).1
theorem binds {C C' : aE → Int} {f s s' v v' n n' : Int} {l m : List aE} (hl : l.length ≤ 4 ∧ ∀ e, e ∈ l → i64R e.f_Signer ∧ e.f_Body.length ≤ 30000) (hm : m.length ≤ 4 ∧ ∀ e, e ∈ m → i64R e.f_Signer ∧ e.f_Body.length ≤ 30000) (hp : ¬ ppE C f ⟨s, encB (binM v n l)⟩ ≠ 0) (hq : ¬ ppE C' f ⟨s', encB (binM v' n' m)⟩ ≠ 0) :
    (decide ((ppV C f ⟨s, encB (binM v n l)⟩).f_Digest = (ppV C' f ⟨s', encB (binM v' n' m)⟩).f_Digest) = decide ((ppV C f ⟨s, encB (binM v n l)⟩).f_Batch = (ppV C' f ⟨s', encB (binM v' n' m)⟩).f_Batch)) ∧ (ppV C f ⟨s, encB (binM v n l)⟩).f_Batch = l := by
  rw [bin_pp hl hp, bin_pp hm hq]
  refine ⟨?_, rfl⟩
  rw [decide_eq_decide]
  exact bch_inj (n := 30000) (by decide) ⟨by have := hl.1; omega, hl.2⟩ ⟨by have := hm.1; omega, hm.2⟩
end Go.Proofs.YtalapplihdmenaaGreat.Q
