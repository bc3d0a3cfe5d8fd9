import Derived.Test.YtalapplihdmenaaGreatC13n12
namespace Go.Proofs.YtalapplihdmenaaGreat.Q
set_option linter.unusedVariables false
set_option linter.unusedSimpArgs false
set_option maxRecDepth 100000
def envB (e : aE) : List UInt8 := intB e.f_Signer ++ bytesB e.f_Body
def envsB (l : List aE) : List UInt8 := l.flatMap envB
def lstB (l : List aE) (k : Nat) : List UInt8 := cntB ((l.length : Nat) : Int) ++ envsB (l.take k)
def listB (l : List aE) : List UInt8 := cntB ((l.length : Nat) : Int) ++ envsB l
def certB (c : aC) : List UInt8 := envB c.f_Pre ++ listB c.f_Votes
def crtsB (l : List aC) : List UInt8 := l.flatMap certB
def certsB (l : List aC) : List UInt8 := cntB ((l.length : Nat) : Int) ++ crtsB l
theorem env_len (e : aE) : (envB e).length = 12 + e.f_Body.length := by rw [envB, List.length_append, int_len, bytes_len]; omega
theorem flat_take {α : Type} {z : α} (f : α → List UInt8) {l : List α} {k : Nat} (hk : k < l.length) : (l.take (k + 1)).flatMap f = (l.take k).flatMap f ++ f (l.getD k z) := by
  rw [tk_succ (z := z) hk, List.flatMap_append]; simp
theorem flat_room {α : Type} {z : α} (f : α → List UInt8) {l : List α} {k : Nat} (hk : k < l.length) : ((l.take k).flatMap f).length + (f (l.getD k z)).length ≤ (l.flatMap f).length := by
  have h : l.flatMap f = (l.take (k + 1)).flatMap f ++ (l.drop (k + 1)).flatMap f := by rw [← List.flatMap_append, List.take_append_drop]
  rw [h, flat_take (z := z) f hk, List.length_append, List.length_append]
  omega
theorem flat_le {α : Type} (f : α → List UInt8) (l : List α) (k : Nat) : ((l.take k).flatMap f).length ≤ (l.flatMap f).length := by
  have h : l.flatMap f = (l.take k).flatMap f ++ (l.drop k).flatMap f := by rw [← List.flatMap_append, List.take_append_drop]
  rw [h, List.length_append]; omega
theorem lst_succ {l : List aE} {k : Nat} (hk : k < l.length) : lstB l (k + 1) = lstB l k ++ envB (l.getD k zE) := by
  rw [lstB, envsB, flat_take (z := zE) envB hk, ← List.append_assoc]; rfl
theorem lst_end {l : List aE} {k : Nat} (hk : l.length ≤ k) : lstB l k = listB l := by rw [lstB, List.take_of_length_le hk]; rfl
theorem list_len (l : List aE) : (listB l).length = 4 + (envsB l).length := by rw [listB, List.length_append, cnt_len]
theorem list_cnt (l : List aE) : l.length ≤ (listB l).length := by
  rw [list_len]
  have : ∀ l : List aE, l.length ≤ (envsB l).length := by
    intro l
    induction l with
    | nil => simp
    | cons e r ih => rw [show envsB (e :: r) = envB e ++ envsB r from rfl, List.length_append, env_len, List.length_cons]; omega
  have := this l
  omega
theorem lst_le (l : List aE) (k : Nat) : (lstB l k).length ≤ (listB l).length := by
  rw [list_len, lstB, List.length_append, cnt_len]
  have := flat_le envB l k
  unfold envsB; omega
theorem lst_room {l : List aE} {k : Nat} (hk : k < l.length) : (lstB l k).length + (envB (l.getD k zE)).length ≤ (listB l).length := by
  rw [list_len, lstB, List.length_append, cnt_len]
  have := flat_room (z := zE) envB hk
  unfold envsB; omega
def crtB (l : List aC) (k : Nat) : List UInt8 := crtsB (l.take k)
theorem crt_0 (l : List aC) : crtB l 0 = [] := by simp [crtB, crtsB]
theorem crt_succ {l : List aC} {k : Nat} (hk : k < l.length) : crtB l (k + 1) = crtB l k ++ (envB (l.getD k zC).f_Pre ++ listB (l.getD k zC).f_Votes) := flat_take (z := zC) certB hk
theorem crt_end {l : List aC} {k : Nat} (hk : l.length ≤ k) : crtB l k = crtsB l := by rw [crtB, List.take_of_length_le hk]
theorem certs_len (l : List aC) : (certsB l).length = 4 + (crtsB l).length := by rw [certsB, List.length_append, cnt_len]
theorem crt_le (l : List aC) (k : Nat) : 4 + (crtB l k).length ≤ (certsB l).length := by
  rw [certs_len]
  have := flat_le certB l k
  unfold crtB crtsB; omega
theorem crt_room {l : List aC} {k : Nat} (hk : k < l.length) : 4 + ((crtB l k).length + ((envB (l.getD k zC).f_Pre).length + (listB (l.getD k zC).f_Votes).length)) ≤ (certsB l).length := by
  rw [certs_len]
  have h := flat_room (z := zC) certB hk
  have e : (certB (l.getD k zC)).length = (envB (l.getD k zC).f_Pre).length + (listB (l.getD k zC).f_Votes).length := List.length_append
  unfold crtB crtsB; omega
def fldM (m : aM) : Nat → List UInt8
  | 0 => intB m.f_View
  | 1 => intB m.f_Seq
  | 2 => intB m.f_Client ++ intB m.f_Stamp
  | 3 => bytesB m.f_Digest
  | 4 => bytesB m.f_Data
  | 5 => intB m.f_Result.f_Code ++ intB m.f_Result.f_Stage
  | 6 => listB m.f_Batch
  | 7 => listB m.f_Pres
  | 8 => certsB m.f_Certs
  | _ => []
def encJ (m : aM) : Nat → List UInt8
  | 0 => intB m.f_Kind
  | j + 1 => encJ m j ++ (if bitH (hasM m.f_Kind) j = true then fldM m j else [])
def encB (m : aM) : List UInt8 := if wellM m then encJ m 9 else []
section
variable {m : aM}
theorem enc_yes {j i : Nat} (h : j = i) (hb : bitH (hasM m.f_Kind) j = true) : encJ m (j + 1) = encJ m j ++ fldM m i := by subst h; rw [encJ, if_pos hb]
theorem enc_no {j : Nat} (hb : ¬ bitH (hasM m.f_Kind) j = true) : encJ m (j + 1) = encJ m j := by rw [encJ, if_neg hb, List.append_nil]
theorem enc_mono (m : aM) (j : Nat) : ∀ d, (encJ m j).length ≤ (encJ m (j + d)).length
  | 0 => Nat.le_refl _
  | d + 1 => Nat.le_trans (enc_mono m j d) (by rw [← Nat.add_assoc, encJ, List.length_append]; omega)
theorem enc_le {j : Nat} (hj : j ≤ 9) : (encJ m j).length ≤ (encJ m 9).length := by
  have := enc_mono m j (9 - j)
  rwa [show j + (9 - j) = 9 by omega] at this
theorem enc_room {j i : Nat} (h : j = i) (hb : bitH (hasM m.f_Kind) j = true) (hj : j ≤ 8) : (encJ m j).length + (fldM m i).length ≤ (encJ m 9).length := by
  have := enc_le (m := m) (show j + 1 ≤ 9 by omega)
  rwa [enc_yes h hb, List.length_append] at this
end
end Go.Proofs.YtalapplihdmenaaGreat.Q
namespace Go.Proofs.YtalapplihdmenaaGreat.Q
open Go Go.RowKit
set_option linter.unusedVariables false
set_option linter.unusedSimpArgs false
set_option maxRecDepth 100000
set_option maxHeartbeats 4000000
theorem msg_putEnvelope (tb : Bool) (nb : Bool) (b : List UInt8) (te : Bool) (e : aE) (hb : b.length + (envB e).length ≤ 10000000000) : Holds Tryz.prog 101 ⟨[slV tb nb kU8 b, .tv (.agg [dI e.f_Signer, .d (dsl te false kU8 e.f_Body)])], [], ownV 0 kU8 0 (b ++ envB e).length, [.live (arrK 5 kU8 (b ++ envB e))]⟩ := by
 refine Holds.of Tryz.func101 rfl (N := 12) Tryz.ntmps101 rfl fun w0 B0 S0 U0 => ?_
 show T _ (mkBase 12 0 w0 S0 U0 B0) ⟨[slV tb nb kU8 b, .tv (.agg [dI e.f_Signer, .d (dsl te false kU8 e.f_Body)])], []⟩ _ _
 have hel := env_len e
 have hi := int_len e.f_Signer
 refine sR [] ?_
 refine sD [[], [], [1], [0, 1, 2], [], [4], [0, 1, 2, 3, 4, 5], [0, 1, 2, 3, 4, 5, 6]] [hR 3 rfl rfl (rCa (wire_PutInt tb nb b e.f_Signer (by omega)) Tryz.func121 [1] [(.tmp 5, slV tb nb kU8 b), (.tmp 7, vI e.f_Signer)] 0 1),
   hR 6 rfl rfl (r_call (wire_PutBytes true false (b ++ intB e.f_Signer) te false e.f_Body (by (simp [maxLen, -List.getD_eq_getElem?_getD] <;> omega))) Tryz.func120 rfl (by decide) [2] [1] (l := [(.tmp 8, ownV 1 kU8 0 (b ++ intB e.f_Signer).length), (.tmp 10, slV te false kU8 e.f_Body)]) [(1, .live (arrK 5 kU8 (b ++ intB e.f_Signer)))] rfl 0 1 rfl rfl rfl rfl rfl rfl rfl rfl rfl ⟨.inr (.inl ⟨rfl, (fun h => by cases h), rfl, rfl, by simp, 5, (b ++ intB e.f_Signer).length, elOf kU8 (b ++ intB e.f_Signer), List.Mem.head _, (by exact Nat.le_of_eq (Nat.zero_add _)), fun i j => by rw [Nat.zero_add]⟩), ⟨.inl ⟨rfl, rfl⟩, trivial⟩⟩ rfl (by intro b hb; simp only [List.mem_cons, List.not_mem_nil, or_false] at hb; rcases hb with rfl; exact ⟨_, List.Mem.head _⟩) (.inr ⟨trivial, (And.intro (arr_nt kU8_nt) trivial)⟩) (lt_of rfl) trivial)] ?_
 refine T.ret ?_
 exact eRt 4 (.one (.own 2 kU8.sz 0 (b ++ intB e.f_Signer ++ bytesB e.f_Body).length)) [2] (by have e1 : ((b ++ envB e).length : Nat) = (b ++ intB e.f_Signer ++ bytesB e.f_Body).length := (by (rw [envB, ← List.append_assoc])); have hE := congrArg (fun (q1 : Nat) => (ownV 2 kU8 0 q1 : AV)) e1; exact hE) ⟨⟨rfl, (by have e1 : (b ++ intB e.f_Signer ++ bytesB e.f_Body : List UInt8) = b ++ envB e := (by (rw [envB, ← List.append_assoc])); have hE := congrArg (fun (q1 : List UInt8) => (.live (arrK 5 kU8 q1) : HS)) e1; exact Eq.trans (by kernel_rfl) hE)⟩, trivial⟩
theorem ref12_Envelope (tb : Bool) (nb : Bool) (b : List UInt8) (te : Bool) (e : aE) (hb : b.length + (envB e).length ≤ 10000000000) : Holds Tryz.prog 33 ⟨[slV tb nb kU8 b, .tv (.agg [dI e.f_Signer, .d (dsl te false kU8 e.f_Body)])], [], ownV 0 kU8 0 (b ++ envB e).length, [.live (arrK 5 kU8 (b ++ envB e))]⟩ := by
 refine Holds.of Tryz.func33 rfl (N := 12) Tryz.ntmps33 rfl fun w0 B0 S0 U0 => ?_
 show T _ (mkBase 12 0 w0 S0 U0 B0) ⟨[slV tb nb kU8 b, .tv (.agg [dI e.f_Signer, .d (dsl te false kU8 e.f_Body)])], []⟩ _ _
 have hel := env_len e
 have hi := int_len e.f_Signer
 refine sR [] ?_
 refine sD [[], [], [1], [0, 1, 2], [], [4], [0, 1, 2, 3, 4, 5], [0, 1, 2, 3, 4, 5, 6]] [hR 3 rfl rfl (rCa (ref01_Int tb nb b e.f_Signer (by omega)) Tryz.func45 [1] [(.tmp 5, slV tb nb kU8 b), (.tmp 7, vI e.f_Signer)] 0 1),
   hR 6 rfl rfl (r_call (ref01_Bytes true false (b ++ intB e.f_Signer) te false e.f_Body (by (simp [maxLen, -List.getD_eq_getElem?_getD] <;> omega))) Tryz.func46 rfl (by decide) [2] [1] (l := [(.tmp 8, ownV 1 kU8 0 (b ++ intB e.f_Signer).length), (.tmp 10, slV te false kU8 e.f_Body)]) [(1, .live (arrK 5 kU8 (b ++ intB e.f_Signer)))] rfl 0 1 rfl rfl rfl rfl rfl rfl rfl rfl rfl ⟨.inr (.inl ⟨rfl, (fun h => by cases h), rfl, rfl, by simp, 5, (b ++ intB e.f_Signer).length, elOf kU8 (b ++ intB e.f_Signer), List.Mem.head _, (by exact Nat.le_of_eq (Nat.zero_add _)), fun i j => by rw [Nat.zero_add]⟩), ⟨.inl ⟨rfl, rfl⟩, trivial⟩⟩ rfl (by intro b hb; simp only [List.mem_cons, List.not_mem_nil, or_false] at hb; rcases hb with rfl; exact ⟨_, List.Mem.head _⟩) (.inr ⟨trivial, (And.intro (arr_nt kU8_nt) trivial)⟩) (lt_of rfl) trivial)] ?_
 refine T.ret ?_
 exact eRt 4 (.one (.own 2 kU8.sz 0 (b ++ intB e.f_Signer ++ bytesB e.f_Body).length)) [2] (by have e1 : ((b ++ envB e).length : Nat) = (b ++ intB e.f_Signer ++ bytesB e.f_Body).length := (by (rw [envB, ← List.append_assoc])); have hE := congrArg (fun (q1 : Nat) => (ownV 2 kU8 0 q1 : AV)) e1; exact hE) ⟨⟨rfl, (by have e1 : (b ++ intB e.f_Signer ++ bytesB e.f_Body : List UInt8) = b ++ envB e := (by (rw [envB, ← List.append_assoc])); have hE := congrArg (fun (q1 : List UInt8) => (.live (arrK 5 kU8 q1) : HS)) e1; exact Eq.trans (by kernel_rfl) hE)⟩, trivial⟩
abbrev Z49 (k : Nat) : AV := vI ((k + 1 : Nat) : Int)
theorem ref12_list (tb : Bool) (nb : Bool) (b : List UInt8) (tl : Bool) (nl : Bool) (sl_ : Bool) (l : List aE) (hb : b.length + (listB l).length ≤ 10000000000) (hl : l.length ≤ 9223372036854775807) : Holds Tryz.prog 47 ⟨[slV tb nb kU8 b, slV tl nl (kE sl_) l], [], ownV 0 kU8 0 (b ++ listB l).length, [.live (arrK 5 kU8 (b ++ listB l))]⟩ := by
 refine Holds.of Tryz.func47 rfl (N := 23) Tryz.ntmps47 rfl fun w0 B0 S0 U0 => ?_
 show T _ (mkBase 23 0 w0 S0 U0 B0) ⟨[slV tb nb kU8 b, slV tl nl (kE sl_) l], []⟩ _ _
 have hll := list_len l
 have hcl := cnt_len ((l.length : Nat) : Int)
 refine sR [] ?_
 refine sR [hR 3 rfl rfl (rCa (ref01_Count tb nb b ((l.length : Nat) : Int) (by omega)) Tryz.func48 [0] [(.tmp 6, slV tb nb kU8 b), (.tmp 8, vI ((l.length : Nat) : Int))] 0 1)] ?_
 refine T.seq ?_
 refine sR [] ?_
 refine T.block ?_
 refine T.loop (ι := Nat) (fun (k : Nat) => ⟨[ownV 0 kU8 0 (b ++ lstB l k).length, slV tl nl (kE sl_) l, aa, aa, aa, vI ((k : Nat) : Int)], [.live (arrK 5 kU8 (b ++ lstB l k))]⟩) (fun (k : Nat) => (k ≤ l.length)) (fun (k : Nat) => l.length - k) (0) (Nat.zero_le _) (fun _ _ hG => Gs.iI [0] (bm 6 35) (t2 := [ownV 0 kU8 0 (b ++ cntB ((l.length : Nat) : Int)).length, slV tl nl (kE sl_) l, aa, aa, aa, vI 0]) (h2 := [.live (arrK 5 kU8 (b ++ cntB ((l.length : Nat) : Int)))]) (congrArg (fun (q1 : Nat) => ([ownV 0 kU8 0 q1, slV tl nl (kE sl_) l, aa, aa, aa, vI 0] : List AV)) (by rfl)) (congrArg (fun (q1 : List UInt8) => ([.live (arrK 5 kU8 q1)] : List HS)) (by rfl)) hG) ?_
 rintro k hk
 show T _ _ ⟨[ownV 0 kU8 0 (b ++ lstB l k).length, slV tl nl (kE sl_) l, aa, aa, aa, vI ((k : Nat) : Int)], [.live (arrK 5 kU8 (b ++ lstB l k))]⟩ _ _
 replace hk : k ≤ l.length := hk
 have hle := lst_le l k
 refine T.seq ?_
 refine sR [] ?_
 by_cases hq1 : ((k : Nat) : Int) < ((l.length : Nat) : Int)
 ·have hrm := lst_room (l := l) (k := k) (by omega)
  refine cT (dT hq1) ?_
  refine T.skip (nT (T.seq ?_))
  refine T.block ?_
  refine xR [hR 3 rfl rfl (q_index tl nl (kE sl_) l k (k := .i64) (i := ((k : Nat) : Int)) Tryz.underlying36 iat_35 rfl rfl (by omega) (lt_of rfl) trivial),
    hR 5 rfl rfl (r_call (ref12_Envelope true false (b ++ lstB l k) sl_ (l.getD k zE) (by (simp [maxLen, -List.getD_eq_getElem?_getD] <;> omega))) Tryz.func33 rfl (by decide) [1] [0] (l := [(.tmp 16, ownV 0 kU8 0 (b ++ lstB l k).length), (.tmp 20, .tv (.agg [dI (l.getD k zE).f_Signer, .d (dsl sl_ false kU8 (l.getD k zE).f_Body)]))]) [(0, .live (arrK 5 kU8 (b ++ lstB l k)))] rfl 0 1 rfl rfl rfl rfl rfl rfl rfl rfl rfl ⟨.inr (.inl ⟨rfl, (fun h => by cases h), rfl, rfl, by simp, 5, (b ++ lstB l k).length, elOf kU8 (b ++ lstB l k), List.Mem.head _, (by exact Nat.le_of_eq (Nat.zero_add _)), fun i j => by rw [Nat.zero_add]⟩), ⟨⟨.inl ⟨rfl, rfl⟩, ⟨.inl ⟨rfl, rfl⟩, trivial⟩⟩, trivial⟩⟩ rfl (by intro b hb; simp only [List.mem_cons, List.not_mem_nil, or_false] at hb; rcases hb with rfl; exact ⟨_, List.Mem.head _⟩) (.inr ⟨trivial, (And.intro (arr_nt kU8_nt) trivial)⟩) (lt_of rfl) trivial)] (by kernel_rfl) (by kernel_rfl) ?_
  refine nB ?_
  refine nT ?_
  refine xK [hR 1 rfl rfl (r_bin (u1 := .int .i64 ((k : Nat) : Int)) (u2 := .int .i64 1) (v := .int .i64 ((k + 1 : Nat) : Int)) (b_add (by rw [IntKind.wrap_i64]; omega)) (lt_of rfl) ⟨rfl, trivial⟩)] ?_
  refine nL (k + 1) (show (k + 1) ≤ l.length from (by omega)) (show (l.length - (k + 1) : Nat) < l.length - k from (by omega)) (fun _ _ hG => Gs.i2 [1] (bm 6 35) (t1 := [ownV 1 kU8 0 (b ++ lstB l (k + 1)).length, slV tl nl (kE sl_) l, aa, aa, aa, (Z49 k)]) (t2 := [ownV 1 kU8 0 ((b ++ lstB l k) ++ envB (l.getD k zE)).length, slV tl nl (kE sl_) l, aa, aa, aa, (Z49 k)]) (h1 := [.live (arrK 5 kU8 (b ++ lstB l (k + 1)))]) (h2 := [.live (arrK 5 kU8 ((b ++ lstB l k) ++ envB (l.getD k zE)))]) (by have e1 : ((b ++ lstB l (k + 1)).length : Nat) = ((b ++ lstB l k) ++ envB (l.getD k zE)).length := (by (rw [lst_succ (by omega), ← List.append_assoc])); have hE := congrArg (fun (q1 : Nat) => ([ownV 1 kU8 0 q1, slV tl nl (kE sl_) l, aa, aa, aa, (Z49 k)] : List AV)) e1; exact hE) (by have e1 : ((b ++ lstB l (k + 1)) : List UInt8) = (b ++ lstB l k) ++ envB (l.getD k zE) := (by (rw [lst_succ (by omega), ← List.append_assoc])); have hE := congrArg (fun (q1 : List UInt8) => ([.live (arrK 5 kU8 q1)] : List HS)) e1; exact hE) hG)
 refine cF (dF hq1) ?_
 refine T.exit ?_
 refine xT ?_
 refine xT ?_
 refine xH ?_
 refine nT ?_
 refine sR [] ?_
 refine T.ret ?_
 exact eRt 4 (.one (.own 0 kU8.sz 0 (b ++ lstB l k).length)) [0] (by have e1 : ((b ++ listB l).length : Nat) = (b ++ lstB l k).length := (by (rw [lst_end (by omega)])); have hE := congrArg (fun (q1 : Nat) => (ownV 0 kU8 0 q1 : AV)) e1; exact hE) ⟨⟨rfl, (by have e1 : ((b ++ lstB l k) : List UInt8) = b ++ listB l := (by (rw [lst_end (by omega)])); have hE := congrArg (fun (q1 : List UInt8) => (.live (arrK 5 kU8 q1) : HS)) e1; exact Eq.trans (by kernel_rfl) hE)⟩, trivial⟩
end Go.Proofs.YtalapplihdmenaaGreat.Q
