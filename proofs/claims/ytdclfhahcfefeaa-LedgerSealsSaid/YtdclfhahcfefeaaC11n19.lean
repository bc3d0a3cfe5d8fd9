import Derived.Test.YtdclfhahcfefeaaC11n18
namespace Go.Proofs.Ytdclfhahcfefeaa.Q
set_option linter.unusedVariables false
set_option linter.unusedSimpArgs false
set_option maxRecDepth 100000

/-! ### Snapshots -/

def packB (h : Int) (d s : List UInt8) : List UInt8 := intB h ++ bytesB d ++ bytesB s
def uD (M : Int) (b : List UInt8) : List UInt8 := rdY (rdR b 0 8 0) (rdE b 0 8 0) M
def uR2 (M : Int) (b : List UInt8) : List UInt8 := rdYR (rdR b 0 8 0) (rdE b 0 8 0) M
def uE2 (M : Int) (b : List UInt8) : Int := rdYE (rdR b 0 8 0) (rdE b 0 8 0) M
def uS (M : Int) (b : List UInt8) : List UInt8 := rdY (uR2 M b) (uE2 M b) M
def uR3 (M : Int) (b : List UInt8) : List UInt8 := rdYR (uR2 M b) (uE2 M b) M
def uE3 (M : Int) (b : List UInt8) : Int := rdYE (uR2 M b) (uE2 M b) M
def okU (M : Int) (b : List UInt8) : Prop := rdX (uR3 M b) (uE3 M b) = 0 ∧ 0 ≤ rdI b 0 ∧ rdI b 0 ≤ 1099511627776
instance (M : Int) (b : List UInt8) : Decidable (okU M b) := inferInstanceAs (Decidable (_ ∧ _ ∧ _))
def unH (M : Int) (b : List UInt8) : Int := if okU M b then rdI b 0 else 0
def unD (M : Int) (b : List UInt8) : List UInt8 := if okU M b then uD M b else []
def unS (M : Int) (b : List UInt8) : List UInt8 := if okU M b then uS M b else []
def unE (M : Int) (b : List UInt8) : Int := if okU M b then 0 else 12
theorem pack_len (h : Int) (d s : List UInt8) : (packB h d s).length = 16 + d.length + s.length := by
  simp only [packB, List.length_append, int_len, bytes_len]; omega
theorem u_lens (M : Int) (b : List UInt8) : (rdR b 0 8 0).length ≤ b.length ∧ (uR2 M b).length ≤ b.length ∧ (uR3 M b).length ≤ b.length ∧ (uD M b).length ≤ b.length ∧ (uS M b).length ≤ b.length := by
  have h1 := rdR_len b 0 8 0
  have h2 : (uR2 M b).length ≤ b.length := Nat.le_trans (rdYR_len _ _ _) h1
  exact ⟨h1, h2, Nat.le_trans (rdYR_len _ _ _) h2, Nat.le_trans (rdY_len _ _ _) h1, Nat.le_trans (rdY_len _ _ _) h2⟩
theorem lim_big {rest : List UInt8} {M : Int} (hM : ((rest.length : Nat) : Int) ≤ M) (h : numL (rest.take 4) ≤ (rest.drop 4).length) : limE M (rest.take 4) = 0 := by
  unfold limE
  rw [List.length_drop] at h
  rw [if_neg (by omega)]
theorem okY_any {rest : List UInt8} {e M M' : Int} (hM : ((rest.length : Nat) : Int) ≤ M) (hM' : ((rest.length : Nat) : Int) ≤ M') (h : okY rest e M) : okY rest e M' := by
  obtain ⟨h1, h2⟩ := h
  exact ⟨⟨h1.1, h1.2.1, lim_big hM' h2⟩, h2⟩
theorem rdYE_ok {rest : List UInt8} {e M : Int} : rdYE rest e M = 0 ↔ okY rest e M := by
  unfold rdYE okY
  constructor
  · intro h
    split at h
    · rename_i h1
      split at h
      · rename_i h2; exact ⟨h1, h2⟩
      · cases h
    · rename_i h1; exact absurd h (rdE_no h1)
  · rintro ⟨h1, h2⟩
    rw [if_pos h1, if_pos h2]
theorem rdY_any {rest : List UInt8} {e M M' : Int} (hM : ((rest.length : Nat) : Int) ≤ M) (hM' : ((rest.length : Nat) : Int) ≤ M') (h : rdYE rest e M = 0) : rdYE rest e M' = 0 ∧ rdY rest e M' = rdY rest e M ∧ rdYR rest e M' = rdYR rest e M := by
  have h1 := rdYE_ok.1 h
  have h2 := okY_any hM hM' h1
  exact ⟨rdYE_ok.2 h2, by rw [rdY, rdY, if_pos h1, if_pos h2], by rw [rdYR, rdYR, if_pos h1, if_pos h2]⟩
theorem okU_any {b : List UInt8} {M M' : Int} (hM : ((b.length : Nat) : Int) ≤ M) (hM' : ((b.length : Nat) : Int) ≤ M') (h : okU M b) : okU M' b ∧ uD M' b = uD M b ∧ uS M' b = uS M b := by
  obtain ⟨h1, h2⟩ := h
  obtain ⟨x1, x2⟩ := rdX_ok h1
  have l1 := rdR_len b 0 8 0
  have l2 := (u_lens M b).2.1
  have e2 : uE2 M b = 0 := (rdYE_ok.1 x1).1.1
  obtain ⟨a1, a2, a3⟩ := rdY_any (M' := M') (show (((rdR b 0 8 0).length : Nat) : Int) ≤ M by omega) (by omega) e2
  have a1' : uE2 M' b = uE2 M b := a1.trans e2.symm
  have a3' : uR2 M' b = uR2 M b := a3
  obtain ⟨b1, b2, b3⟩ := rdY_any (M' := M') (show (((uR2 M b).length : Nat) : Int) ≤ M by omega) (by omega) x1
  refine ⟨⟨?_, h2⟩, a2, by unfold uS; rw [a1', a3']; exact b2⟩
  unfold uR3 uE3
  rw [a1', a3', b3]
  show rdX (uR3 M b) (rdYE (uR2 M b) (uE2 M b) M') = 0
  rw [b1, ← show uE3 M b = 0 from x1]
  exact h1.trans x1.symm
theorem un_any {b : List UInt8} {M M' : Int} (hM : ((b.length : Nat) : Int) ≤ M) (hM' : ((b.length : Nat) : Int) ≤ M') : unH M b = unH M' b ∧ unD M b = unD M' b ∧ unS M b = unS M' b ∧ unE M b = unE M' b := by
  unfold unH unD unS unE
  by_cases h : okU M b
  · obtain ⟨h1, h2, h3⟩ := okU_any hM hM' h
    rw [if_pos h, if_pos h, if_pos h, if_pos h, if_pos h1, if_pos h1, if_pos h1, if_pos h1, h2, h3]
    exact ⟨rfl, rfl, rfl, rfl⟩
  · have h1 : ¬ okU M' b := fun h' => h (okU_any hM' hM h').1
    rw [if_neg h, if_neg h, if_neg h, if_neg h, if_neg h1, if_neg h1, if_neg h1, if_neg h1]
    exact ⟨rfl, rfl, rfl, rfl⟩
theorem un_pack {h : Int} {d s : List UInt8} {M : Int} (hh : i64R h) (hd : d.length ≤ 1000000) (hs : s.length ≤ 1000000) (hM : (((packB h d s).length : Nat) : Int) ≤ M) :
    rdI (packB h d s) 0 = h ∧ uD M (packB h d s) = d ∧ uS M (packB h d s) = s ∧ uR3 M (packB h d s) = [] ∧ uE3 M (packB h d s) = 0 := by
  have hl := pack_len h d s
  have hx : packB h d s = intB h ++ (bytesB d ++ (bytesB s ++ [])) := by simp [packB, List.append_assoc]
  generalize packB h d s = x at hx hl hM ⊢
  obtain ⟨a1, a2, a3⟩ := back_intX hh (bytesB d ++ (bytesB s ++ []))
  obtain ⟨b1, b2, b3⟩ := back_bytesM (most := M) (x := d) (by omega) (bytesB s ++ []) (by omega)
  obtain ⟨c1, c2, c3⟩ := back_bytesM (most := M) (x := s) (by omega) [] (by omega)
  have e1 : uR2 M x = bytesB s ++ [] := by unfold uR2; rw [hx, a2, a3]; exact b2
  have e2 : uE2 M x = 0 := by unfold uE2; rw [hx, a2, a3]; exact b3
  refine ⟨by rw [hx]; exact a1, by unfold uD; rw [hx, a2, a3]; exact b1, by unfold uS; rw [e1, e2]; exact c1, by unfold uR3; rw [e1, e2]; exact c2, by unfold uE3; rw [e1, e2]; exact c3⟩
theorem un_ok {h : Int} {d s : List UInt8} {M : Int} (hh : i64R h) (hd : d.length ≤ 1000000) (hs : s.length ≤ 1000000) (hM : (((packB h d s).length : Nat) : Int) ≤ M) :
    (unE M (packB h d s) = 0 ↔ 0 ≤ h ∧ h ≤ 1099511627776) ∧ (unE M (packB h d s) = 0 → unH M (packB h d s) = h ∧ unD M (packB h d s) = d ∧ unS M (packB h d s) = s) := by
  obtain ⟨a1, a2, a3, a4, a5⟩ := un_pack hh hd hs hM
  have hk : okU M (packB h d s) ↔ 0 ≤ h ∧ h ≤ 1099511627776 := by
    unfold okU
    rw [a1, a4, a5]
    exact ⟨fun h => h.2, fun h => ⟨rfl, h⟩⟩
  unfold unE unH unD unS
  by_cases h1 : okU M (packB h d s)
  · rw [if_pos h1, if_pos h1, if_pos h1, if_pos h1, a1, a2, a3]
    exact ⟨⟨fun _ => hk.1 h1, fun _ => rfl⟩, fun _ => ⟨rfl, rfl, rfl⟩⟩
  · rw [if_neg h1]
    exact ⟨⟨fun h => (by cases h), fun h => absurd (hk.2 h) h1⟩, fun h => (by cases h)⟩
theorem pack_inj {h h' : Int} {d s d' s' : List UInt8} (hh : i64R h) (hh' : i64R h') (hd : d.length ≤ 1000000) (hs : s.length ≤ 1000000) (hd' : d'.length ≤ 1000000) (hs' : s'.length ≤ 1000000) : packB h d s = packB h' d' s' ↔ h = h' ∧ d = d' ∧ s = s' := by
  constructor
  · intro e
    obtain ⟨a1, a2, a3, _, _⟩ := un_pack (M := (((packB h d s).length : Nat) : Int)) hh hd hs (Int.le_refl _)
    obtain ⟨b1, b2, b3, _, _⟩ := un_pack (M := (((packB h d s).length : Nat) : Int)) hh' hd' hs' (by rw [e]; exact Int.le_refl _)
    rw [e] at a1 a2 a3
    rw [← e] at b1 b2 b3
    rw [e] at b1 b2 b3
    exact ⟨a1.symm.trans b1, a2.symm.trans b2, a3.symm.trans b3⟩
  · rintro ⟨rfl, rfl, rfl⟩; rfl
theorem seal_inj {h h' : Int} {d s d' s' : List UInt8} (hh : i64R h) (hh' : i64R h') (hd : d.length ≤ 5000) (hs : s.length ≤ 5000) (hd' : d'.length ≤ 5000) (hs' : s'.length ≤ 5000) : ofB 7 [packB h d s] = ofB 7 [packB h' d' s'] ↔ h = h' ∧ d = d' ∧ s = s' := by
  have l1 := pack_len h d s
  have l2 := pack_len h' d' s'
  rw [leaf_inj (by omega) (by omega), pack_inj hh hh' (by omega) (by omega) (by omega) (by omega)]
  exact ⟨fun h => h.2, fun h => ⟨rfl, h⟩⟩
end Go.Proofs.Ytdclfhahcfefeaa.Q
namespace Go.Proofs.Ytdclfhahcfefeaa.Q
open Go Go.RowKit
set_option linter.unusedVariables false
set_option linter.unusedSimpArgs false
set_option maxRecDepth 100000
set_option maxHeartbeats 4000000
-- quaestor/ledger.Pack
theorem ledger_Pack (h : Int) (d : List UInt8) (ts : Bool) (ns : Bool) (s : List UInt8) (hd : d.length ≤ 100000000) (hs : s.length ≤ 100000000) : Holds Try.prog 26 ⟨[dv (.int .i64 h), dv (strV d), slV ts ns kU8 s], [], ownV 0 kU8 0 (packB h d s).length, [.live (arrK 5 kU8 (packB h d s))]⟩ := by
  refine Holds.of Try.func26 rfl (N := 14) Try.ntmps26 rfl fun w0 B0 S0 U0 => ?_
  show T _ (mkBase 14 0 w0 S0 U0 B0) ⟨[dv (.int .i64 h), dv (strV d), slV ts ns kU8 s], []⟩ _ _
  have hi := int_len h
  have hb := bytes_len d
  refine T.seq ?_
  refine xR [] (by kernel_rfl) (by kernel_rfl) ?_
  refine nT ?_
  refine T.seq ?_
  refine xR [hR 1 rfl rfl (r_call (wire_PutInt false false ([] : List UInt8) h (by (simp [maxLen, -List.getD_eq_getElem?_getD] <;> omega))) Try.func47 rfl (by decide) [0] [] (l := [(.const (.slice none 0 0), dv (.slice none 0 0)), (.tmp 7, dv (.int .i64 h))]) [] rfl 0 1 rfl rfl rfl rfl rfl rfl rfl rfl rfl ⟨.inr (.inr ⟨rfl, rfl, rfl⟩), ⟨.inl ⟨rfl, rfl⟩, trivial⟩⟩ rfl (fun b hb => by cases hb) (.inl rfl) (lt_of rfl) ⟨rfl, trivial⟩),
    hR 3 rfl rfl (r_bytesOf (l := d) Try.underlying29 Try.underlying58 Try.underlying5 (lt_of rfl) trivial),
    hR 4 rfl rfl (r_call (wire_PutBytes true false (([] : List UInt8) ++ intB h) false true d (by (simp [maxLen, -List.getD_eq_getElem?_getD] <;> omega))) Try.func46 rfl (by decide) [1] [0] (l := [(.tmp 8, ownV 0 kU8 0 (([] : List UInt8) ++ intB h).length), (.tmp 10, slV false true kU8 d)]) [(0, .live (arrK 5 kU8 (([] : List UInt8) ++ intB h)))] rfl 0 1 rfl rfl rfl rfl rfl rfl rfl rfl rfl ⟨.inr (.inl ⟨rfl, (fun h => by cases h), rfl, rfl, by simp, 5, (([] : List UInt8) ++ intB h).length, elOf kU8 (([] : List UInt8) ++ intB h), List.Mem.head _, by omega, fun i j => by rw [Nat.zero_add]⟩), ⟨.inl ⟨rfl, rfl⟩, trivial⟩⟩ rfl (by intro b hb; simp only [List.mem_cons, List.not_mem_nil, or_false] at hb; rcases hb with rfl; exact ⟨_, List.Mem.head _⟩) (.inr ⟨trivial, (And.intro (arr_nt kU8_nt) trivial)⟩) (lt_of rfl) trivial),
    hR 6 rfl rfl (r_call (wire_PutBytes true false (([] : List UInt8) ++ intB h ++ bytesB d) ts ns s (by (simp [maxLen, -List.getD_eq_getElem?_getD] <;> omega))) Try.func46 rfl (by decide) [2] [1] (l := [(.tmp 11, ownV 1 kU8 0 (([] : List UInt8) ++ intB h ++ bytesB d).length), (.tmp 12, slV ts ns kU8 s)]) [(1, .live (arrK 5 kU8 (([] : List UInt8) ++ intB h ++ bytesB d)))] rfl 0 1 rfl rfl rfl rfl rfl rfl rfl rfl rfl ⟨.inr (.inl ⟨rfl, (fun h => by cases h), rfl, rfl, by simp, 5, (([] : List UInt8) ++ intB h ++ bytesB d).length, elOf kU8 (([] : List UInt8) ++ intB h ++ bytesB d), List.Mem.head _, by omega, fun i j => by rw [Nat.zero_add]⟩), ⟨.inl ⟨rfl, rfl⟩, trivial⟩⟩ rfl (by intro b hb; simp only [List.mem_cons, List.not_mem_nil, or_false] at hb; rcases hb with rfl; exact ⟨_, List.Mem.head _⟩) (.inr ⟨trivial, (And.intro (arr_nt kU8_nt) trivial)⟩) (lt_of rfl) trivial)] (by kernel_rfl) (by kernel_rfl) ?_
  refine nT ?_
  refine T.ret ?_
  exact tE (.inl rfl) [.t 6 (.one (.own 2 kU8.sz 0 (([] : List UInt8) ++ intB h ++ bytesB d ++ bytesB s).length))] ⟨⟨rfl, by kernel_rfl⟩, trivial⟩ [2] (by have e1 : ((packB h d s).length : Nat) = (([] : List UInt8) ++ intB h ++ bytesB d ++ bytesB s).length := (by rfl); have hE := congrArg (fun (q1 : Nat) => (ownV 2 kU8 0 q1 : AV)) e1; exact hE) rfl rfl rfl rfl rfl ⟨⟨rfl, (by have e1 : (([] : List UInt8) ++ intB h ++ bytesB d ++ bytesB s : List UInt8) = packB h d s := (by rfl); have hE := congrArg (fun (q1 : List UInt8) => (.live (arrK 5 kU8 q1) : HS)) e1; exact Eq.trans (by kernel_rfl) hE)⟩, trivial⟩
end Go.Proofs.Ytdclfhahcfefeaa.Q
namespace Go.Proofs.Ytdclfhahcfefeaa.Q
open Go Go.RowKit
set_option linter.unusedVariables false
set_option linter.unusedSimpArgs false
set_option maxRecDepth 100000
set_option maxHeartbeats 4000000
-- quaestor/ledger.Seal
theorem ledger_Seal (tb : Bool) (nb : Bool) (b : List UInt8) (hb : b.length ≤ 1000000000) : Holds Try.prog 31 ⟨[slV tb nb kU8 b], [], dv (strV (ofB 7 [b])), []⟩ := by
  refine Holds.of Try.func31 rfl (N := 5) Try.ntmps31 rfl fun w0 B0 S0 U0 => ?_
  show T _ (mkBase 5 0 w0 S0 U0 B0) ⟨[slV tb nb kU8 b], []⟩ _ _
  refine T.seq ?_
  refine xR [] (by kernel_rfl) (by kernel_rfl) ?_
  refine nT ?_
  refine T.seq ?_
  refine xR [hR 1 rfl rfl (r_call (term_Leaf (7 : UInt8) tb nb b (by omega)) Try.func58 rfl (by decide) [] [] (l := [(.const (.int .u8 7), dv (.int .u8 7)), (.tmp 3, slV tb nb kU8 b)]) [] rfl 0 0 rfl rfl rfl rfl rfl rfl rfl rfl rfl ⟨.inl ⟨rfl, rfl⟩, ⟨.inl ⟨rfl, rfl⟩, trivial⟩⟩ rfl (fun b hb => by cases hb) (.inl rfl) (lt_of rfl) ⟨rfl, trivial⟩)] (by kernel_rfl) (by kernel_rfl) ?_
  refine nT ?_
  refine T.ret ?_
  exact tE (.inl rfl) [.t 2 (.one (.d (.val (strV (ofB (7 : UInt8) [b])))))] ⟨⟨rfl, by kernel_rfl⟩, trivial⟩ [] (by have e1 : ((ofB 7 [b]) : List UInt8) = (ofB (7 : UInt8) [b]) := (by rfl); have hE := congrArg (fun (q1 : List UInt8) => (dv (strV q1) : AV)) e1; exact hE) rfl rfl rfl rfl rfl trivial
end Go.Proofs.Ytdclfhahcfefeaa.Q
namespace Go.Proofs.Ytdclfhahcfefeaa.Q
open Go Go.RowKit
set_option linter.unusedVariables false
set_option linter.unusedSimpArgs false
set_option maxRecDepth 100000
set_option maxHeartbeats 4000000
-- quaestor/quaestorref11.Pack
theorem ref11_Pack (h : Int) (d : List UInt8) (ts : Bool) (ns : Bool) (s : List UInt8) (hd : d.length ≤ 100000000) (hs : s.length ≤ 100000000) : Holds Try.prog 30 ⟨[dv (.int .i64 h), dv (strV d), slV ts ns kU8 s], [], ownV 0 kU8 0 (packB h d s).length, [.live (arrK 5 kU8 (packB h d s))]⟩ := by
  refine Holds.of Try.func30 rfl (N := 14) Try.ntmps30 rfl fun w0 B0 S0 U0 => ?_
  show T _ (mkBase 14 0 w0 S0 U0 B0) ⟨[dv (.int .i64 h), dv (strV d), slV ts ns kU8 s], []⟩ _ _
  have hi := int_len h
  have hb := bytes_len d
  refine T.seq ?_
  refine xR [] (by kernel_rfl) (by kernel_rfl) ?_
  refine nT ?_
  refine T.seq ?_
  refine xR [hR 1 rfl rfl (r_call (ref01_Int false false ([] : List UInt8) h (by (simp [maxLen, -List.getD_eq_getElem?_getD] <;> omega))) Try.func57 rfl (by decide) [0] [] (l := [(.const (.slice none 0 0), dv (.slice none 0 0)), (.tmp 7, dv (.int .i64 h))]) [] rfl 0 1 rfl rfl rfl rfl rfl rfl rfl rfl rfl ⟨.inr (.inr ⟨rfl, rfl, rfl⟩), ⟨.inl ⟨rfl, rfl⟩, trivial⟩⟩ rfl (fun b hb => by cases hb) (.inl rfl) (lt_of rfl) ⟨rfl, trivial⟩),
    hR 3 rfl rfl (r_bytesOf (l := d) Try.underlying29 Try.underlying58 Try.underlying5 (lt_of rfl) trivial),
    hR 4 rfl rfl (r_call (ref01_Bytes true false (([] : List UInt8) ++ intB h) false true d (by (simp [maxLen, -List.getD_eq_getElem?_getD] <;> omega))) Try.func56 rfl (by decide) [1] [0] (l := [(.tmp 8, ownV 0 kU8 0 (([] : List UInt8) ++ intB h).length), (.tmp 10, slV false true kU8 d)]) [(0, .live (arrK 5 kU8 (([] : List UInt8) ++ intB h)))] rfl 0 1 rfl rfl rfl rfl rfl rfl rfl rfl rfl ⟨.inr (.inl ⟨rfl, (fun h => by cases h), rfl, rfl, by simp, 5, (([] : List UInt8) ++ intB h).length, elOf kU8 (([] : List UInt8) ++ intB h), List.Mem.head _, by omega, fun i j => by rw [Nat.zero_add]⟩), ⟨.inl ⟨rfl, rfl⟩, trivial⟩⟩ rfl (by intro b hb; simp only [List.mem_cons, List.not_mem_nil, or_false] at hb; rcases hb with rfl; exact ⟨_, List.Mem.head _⟩) (.inr ⟨trivial, (And.intro (arr_nt kU8_nt) trivial)⟩) (lt_of rfl) trivial),
    hR 6 rfl rfl (r_call (ref01_Bytes true false (([] : List UInt8) ++ intB h ++ bytesB d) ts ns s (by (simp [maxLen, -List.getD_eq_getElem?_getD] <;> omega))) Try.func56 rfl (by decide) [2] [1] (l := [(.tmp 11, ownV 1 kU8 0 (([] : List UInt8) ++ intB h ++ bytesB d).length), (.tmp 12, slV ts ns kU8 s)]) [(1, .live (arrK 5 kU8 (([] : List UInt8) ++ intB h ++ bytesB d)))] rfl 0 1 rfl rfl rfl rfl rfl rfl rfl rfl rfl ⟨.inr (.inl ⟨rfl, (fun h => by cases h), rfl, rfl, by simp, 5, (([] : List UInt8) ++ intB h ++ bytesB d).length, elOf kU8 (([] : List UInt8) ++ intB h ++ bytesB d), List.Mem.head _, by omega, fun i j => by rw [Nat.zero_add]⟩), ⟨.inl ⟨rfl, rfl⟩, trivial⟩⟩ rfl (by intro b hb; simp only [List.mem_cons, List.not_mem_nil, or_false] at hb; rcases hb with rfl; exact ⟨_, List.Mem.head _⟩) (.inr ⟨trivial, (And.intro (arr_nt kU8_nt) trivial)⟩) (lt_of rfl) trivial)] (by kernel_rfl) (by kernel_rfl) ?_
  refine nT ?_
  refine T.ret ?_
  exact tE (.inl rfl) [.t 6 (.one (.own 2 kU8.sz 0 (([] : List UInt8) ++ intB h ++ bytesB d ++ bytesB s).length))] ⟨⟨rfl, by kernel_rfl⟩, trivial⟩ [2] (by have e1 : ((packB h d s).length : Nat) = (([] : List UInt8) ++ intB h ++ bytesB d ++ bytesB s).length := (by rfl); have hE := congrArg (fun (q1 : Nat) => (ownV 2 kU8 0 q1 : AV)) e1; exact hE) rfl rfl rfl rfl rfl ⟨⟨rfl, (by have e1 : (([] : List UInt8) ++ intB h ++ bytesB d ++ bytesB s : List UInt8) = packB h d s := (by rfl); have hE := congrArg (fun (q1 : List UInt8) => (.live (arrK 5 kU8 q1) : HS)) e1; exact Eq.trans (by kernel_rfl) hE)⟩, trivial⟩
end Go.Proofs.Ytdclfhahcfefeaa.Q
namespace Go.Proofs.Ytdclfhahcfefeaa.Q
open Go Go.RowKit
set_option linter.unusedVariables false
set_option linter.unusedSimpArgs false
set_option maxRecDepth 100000
set_option maxHeartbeats 4000000
-- quaestor/quaestorref11.Seal
theorem ref11_Seal (tb : Bool) (nb : Bool) (b : List UInt8) (hb : b.length ≤ 1000000000) : Holds Try.prog 32 ⟨[slV tb nb kU8 b], [], dv (strV (ofB 7 [b])), []⟩ := by
  refine Holds.of Try.func32 rfl (N := 5) Try.ntmps32 rfl fun w0 B0 S0 U0 => ?_
  show T _ (mkBase 5 0 w0 S0 U0 B0) ⟨[slV tb nb kU8 b], []⟩ _ _
  refine T.seq ?_
  refine xR [] (by kernel_rfl) (by kernel_rfl) ?_
  refine nT ?_
  refine T.seq ?_
  refine xR [hR 1 rfl rfl (r_call (ref02_Leaf (7 : UInt8) tb nb b (by omega)) Try.func59 rfl (by decide) [] [] (l := [(.const (.int .u8 7), dv (.int .u8 7)), (.tmp 3, slV tb nb kU8 b)]) [] rfl 0 0 rfl rfl rfl rfl rfl rfl rfl rfl rfl ⟨.inl ⟨rfl, rfl⟩, ⟨.inl ⟨rfl, rfl⟩, trivial⟩⟩ rfl (fun b hb => by cases hb) (.inl rfl) (lt_of rfl) ⟨rfl, trivial⟩)] (by kernel_rfl) (by kernel_rfl) ?_
  refine nT ?_
  refine T.ret ?_
  exact tE (.inl rfl) [.t 2 (.one (.d (.val (strV (ofB (7 : UInt8) [b])))))] ⟨⟨rfl, by kernel_rfl⟩, trivial⟩ [] (by have e1 : ((ofB 7 [b]) : List UInt8) = (ofB (7 : UInt8) [b]) := (by rfl); have hE := congrArg (fun (q1 : List UInt8) => (dv (strV q1) : AV)) e1; exact hE) rfl rfl rfl rfl rfl trivial
end Go.Proofs.Ytdclfhahcfefeaa.Q
namespace Go.Proofs.Ytdclfhahcfefeaa.Q
open Go Go.RowKit
set_option linter.unusedVariables false
set_option linter.unusedSimpArgs false
set_option maxRecDepth 100000
set_option maxHeartbeats 4000000
-- quaestor/ledger.Unpack
theorem ledger_Unpack (tb : Bool) (nb : Bool) (b : List UInt8) (hb : b.length ≤ 100000000) : Holds Try.prog 27 ⟨[slV tb nb kU8 b], [], .tup [.one (.d (.val (.int .i64 (unH ((b.length : Nat) : Int) b)))), .one (.d (.val (strV (unD ((b.length : Nat) : Int) b)))), .one (.d (dsl false false kU8 (unS ((b.length : Nat) : Int) b))), .one (.d (.val (.int .i64 (unE ((b.length : Nat) : Int) b))))], []⟩ := by
  refine Holds.of Try.func27 rfl (N := 39) Try.ntmps27 rfl fun w0 B0 S0 U0 => ?_
  show T _ (mkBase 39 0 w0 S0 U0 B0) ⟨[slV tb nb kU8 b], []⟩ _ _
  have hu := u_lens ((b.length : Nat) : Int) b
  have hu1 := hu.1
  have hu2 := hu.2.1
  have hu3 := hu.2.2.1
  have hu4 := hu.2.2.2.1
  have hu5 := hu.2.2.2.2
  simp only [uR2, uR3, uE2, uD, uS] at hu2 hu3 hu4 hu5
  refine T.seq ?_
  refine xR [] (by kernel_rfl) (by kernel_rfl) ?_
  refine nT ?_
  refine T.seq ?_
  refine xR [hR 1 rfl rfl (r_call (wire_New tb nb b (by omega)) Try.func48 rfl (by decide) [0] [] (l := [(.tmp 10, slV tb nb kU8 b)]) [] rfl 0 1 rfl rfl rfl rfl rfl rfl rfl rfl rfl ⟨.inl ⟨rfl, rfl⟩, trivial⟩ rfl (fun b hb => by cases hb) (.inl rfl) (lt_of rfl) trivial)] (by kernel_rfl) (by kernel_rfl) ?_
  refine nT ?_
  refine T.seq ?_
  refine xD [[], [0], [], [], [3], [0, 1, 2, 3, 4], [0, 1, 2, 3, 4, 5], [], [], [8], [0, 1, 2, 3, 4, 5, 7, 8, 9], [0, 1, 2, 3, 4, 5, 7, 8, 9, 10], [0, 1, 2, 3, 4, 5, 6, 7, 8, 9, 10, 11], [0, 1, 2, 3, 4, 5, 6, 7, 8, 9, 10, 11, 12]] [hR 1 rfl rfl (r_call (rd_Int b 0 (by omega)) Try.func49 rfl (by decide) [0] [] (l := [(.tmp 12, pv 0 0)]) [] rfl 1 1 rfl rfl rfl rfl rfl rfl rfl rfl rfl ⟨.inl ⟨rfl, rfl⟩, trivial⟩ rfl (fun b hb => by cases hb) (.inl rfl) (lt_of rfl) trivial),
    hR 5 rfl rfl (r_call (rd_Bytes (rdR b 0 8 0) (rdE b 0 8 0) ((b.length : Nat) : Int) (by omega)) Try.func50 rfl (by decide) [0, 1] [] (l := [(.tmp 14, pv 0 0), (.tmp 16, dv (.int .i64 ((b.length : Nat) : Int)))]) [] rfl 1 2 rfl rfl rfl rfl rfl rfl rfl rfl rfl ⟨.inl ⟨rfl, rfl⟩, ⟨.inl ⟨rfl, rfl⟩, trivial⟩⟩ rfl (fun b hb => by cases hb) (.inl rfl) (lt_of rfl) trivial),
    hR 6 rfl rfl (q_strOf () (rdY (rdR b 0 8 0) (rdE b 0 8 0) ((b.length : Nat) : Int)) (ys := (.own 1 kU8.sz 0 (rdY (rdR b 0 8 0) (rdE b 0 8 0) ((b.length : Nat) : Int)).length)) (rhs := [(1, .live (arrK 5 kU8 (rdY (rdR b 0 8 0) (rdE b 0 8 0) ((b.length : Nat) : Int))))]) Try.underlying58 Try.underlying5 Try.underlying29 (src_own 1 5 kU8 (rdY (rdR b 0 8 0) (rdE b 0 8 0) ((b.length : Nat) : Int))) (lt_of rfl) trivial),
    hR 10 rfl rfl (r_call (rd_Bytes (rdYR (rdR b 0 8 0) (rdE b 0 8 0) ((b.length : Nat) : Int)) (rdYE (rdR b 0 8 0) (rdE b 0 8 0) ((b.length : Nat) : Int)) ((b.length : Nat) : Int) (by omega)) Try.func50 rfl (by decide) [0, 2] [] (l := [(.tmp 19, pv 0 0), (.tmp 21, dv (.int .i64 ((b.length : Nat) : Int)))]) [] rfl 1 2 rfl rfl rfl rfl rfl rfl rfl rfl rfl ⟨.inl ⟨rfl, rfl⟩, ⟨.inl ⟨rfl, rfl⟩, trivial⟩⟩ rfl (fun b hb => by cases hb) (.inl rfl) (lt_of rfl) trivial)] (by kernel_rfl) (by kernel_rfl) (by kernel_rfl) (by kernel_rfl) (by kernel_rfl) (by kernel_rfl) ?_
  refine nT ?_
  refine T.seq ?_
  refine T.seq ?_
  refine xR [hR 1 rfl rfl (r_call (rd_End (rdYR (rdYR (rdR b 0 8 0) (rdE b 0 8 0) ((b.length : Nat) : Int)) (rdYE (rdR b 0 8 0) (rdE b 0 8 0) ((b.length : Nat) : Int)) ((b.length : Nat) : Int)) (rdYE (rdYR (rdR b 0 8 0) (rdE b 0 8 0) ((b.length : Nat) : Int)) (rdYE (rdR b 0 8 0) (rdE b 0 8 0) ((b.length : Nat) : Int)) ((b.length : Nat) : Int)) (by omega)) Try.func51 rfl (by decide) [0] [] (l := [(.tmp 23, pv 0 0)]) [] rfl 1 1 rfl rfl rfl rfl rfl rfl rfl rfl rfl ⟨.inl ⟨rfl, rfl⟩, trivial⟩ rfl (fun b hb => by cases hb) (.inl rfl) (lt_of rfl) trivial)] (by kernel_rfl) (by kernel_rfl) ?_
  refine nT ?_
  refine T.seq ?_
  by_cases hq1 : (rdX (rdYR (rdYR (rdR b 0 8 0) (rdE b 0 8 0) ((b.length : Nat) : Int)) (rdYE (rdR b 0 8 0) (rdE b 0 8 0) ((b.length : Nat) : Int)) ((b.length : Nat) : Int)) (rdYE (rdYR (rdR b 0 8 0) (rdE b 0 8 0) ((b.length : Nat) : Int)) (rdYE (rdR b 0 8 0) (rdE b 0 8 0) ((b.length : Nat) : Int)) ((b.length : Nat) : Int))) ≠ 0
  · have hno : ¬ okU ((b.length : Nat) : Int) b := fun h9 => hq1 h9.1
    refine xR [hR 1 rfl rfl (r_call (rd_Err (rdYR (rdYR (rdR b 0 8 0) (rdE b 0 8 0) ((b.length : Nat) : Int)) (rdYE (rdR b 0 8 0) (rdE b 0 8 0) ((b.length : Nat) : Int)) ((b.length : Nat) : Int)) (rdX (rdYR (rdYR (rdR b 0 8 0) (rdE b 0 8 0) ((b.length : Nat) : Int)) (rdYE (rdR b 0 8 0) (rdE b 0 8 0) ((b.length : Nat) : Int)) ((b.length : Nat) : Int)) (rdYE (rdYR (rdR b 0 8 0) (rdE b 0 8 0) ((b.length : Nat) : Int)) (rdYE (rdR b 0 8 0) (rdE b 0 8 0) ((b.length : Nat) : Int)) ((b.length : Nat) : Int))) ) Try.func52 rfl (by decide) [0] [] (l := [(.tmp 25, pv 0 0)]) [] rfl 1 1 rfl rfl rfl rfl rfl rfl rfl rfl rfl ⟨.inl ⟨rfl, rfl⟩, trivial⟩ rfl (fun b hb => by cases hb) (.inl rfl) (lt_of rfl) trivial),
      hN 4 false (decide_eq_true hq1),
      hN 5 false (decide_eq_true hq1),
      hP 6 (decide_eq_true hq1),
      hN 8 (b := true) false rfl,
      hN 9 (b := true) false rfl,
      hP 10 (b := true) (w := true) rfl] (by kernel_rfl) (by kernel_rfl) ?_
    refine nT ?_
    refine T.condT (b := true) (by kernel_rfl) rfl ?_
    refine T.seq ?_
    refine xR [] (by kernel_rfl) (by kernel_rfl) ?_
    refine nT ?_
    refine T.ret ?_
    refine rT ?_
    refine Ends.turn (s' := ⟨[slV tb nb kU8 b, aa, dv (.int .i64 0), dv (strV []), dv (.slice none 0 0), dv (.int .i64 12), pv 0 0, dv (.int .i64 (rdI b 0)), dv (strV (rdY (rdR b 0 8 0) (rdE b 0 8 0) ((b.length : Nat) : Int))), ownV 2 kU8 0 (rdY (rdYR (rdR b 0 8 0) (rdE b 0 8 0) ((b.length : Nat) : Int)) (rdYE (rdR b 0 8 0) (rdE b 0 8 0) ((b.length : Nat) : Int)) ((b.length : Nat) : Int)).length, aa, aa, aa, aa, aa, aa, aa, aa, aa, aa, aa, aa, aa, aa, aa, aa, aa, aa, aa, aa, aa, aa, aa, aa, aa, dv (.bool true)], [.live (.box 115 [.d (dsl false false kU8 (rdYR (rdYR (rdR b 0 8 0) (rdE b 0 8 0) ((b.length : Nat) : Int)) (rdYE (rdR b 0 8 0) (rdE b 0 8 0) ((b.length : Nat) : Int)) ((b.length : Nat) : Int))), .d (.val (.int .i64 (rdX (rdYR (rdYR (rdR b 0 8 0) (rdE b 0 8 0) ((b.length : Nat) : Int)) (rdYE (rdR b 0 8 0) (rdE b 0 8 0) ((b.length : Nat) : Int)) ((b.length : Nat) : Int)) (rdYE (rdYR (rdR b 0 8 0) (rdE b 0 8 0) ((b.length : Nat) : Int)) (rdYE (rdR b 0 8 0) (rdE b 0 8 0) ((b.length : Nat) : Int)) ((b.length : Nat) : Int)))))]), .live (arrK 5 kU8 (rdY (rdR b 0 8 0) (rdE b 0 8 0) ((b.length : Nat) : Int))), .live (arrK 5 kU8 (rdY (rdYR (rdR b 0 8 0) (rdE b 0 8 0) ((b.length : Nat) : Int)) (rdYE (rdR b 0 8 0) (rdE b 0 8 0) ((b.length : Nat) : Int)) ((b.length : Nat) : Int)))]⟩) (fun _ _ hG => Gs.norm (by kernel_rfl) hG) ?_
    refine Ends.turn (s' := ⟨[slV tb nb kU8 b, aa, dv (.int .i64 0), dv (strV []), slV false false kU8 ([] : List UInt8), dv (.int .i64 12), pv 0 0, dv (.int .i64 (rdI b 0)), dv (strV (rdY (rdR b 0 8 0) (rdE b 0 8 0) ((b.length : Nat) : Int))), ownV 2 kU8 0 (rdY (rdYR (rdR b 0 8 0) (rdE b 0 8 0) ((b.length : Nat) : Int)) (rdYE (rdR b 0 8 0) (rdE b 0 8 0) ((b.length : Nat) : Int)) ((b.length : Nat) : Int)).length, aa, aa, aa, aa, aa, aa, aa, aa, aa, aa, aa, aa, aa, aa, aa, aa, aa, aa, aa, aa, aa, aa, aa, aa, aa, dv (.bool true)], [.live (.box 115 [.d (dsl false false kU8 (rdYR (rdYR (rdR b 0 8 0) (rdE b 0 8 0) ((b.length : Nat) : Int)) (rdYE (rdR b 0 8 0) (rdE b 0 8 0) ((b.length : Nat) : Int)) ((b.length : Nat) : Int))), .d (.val (.int .i64 (rdX (rdYR (rdYR (rdR b 0 8 0) (rdE b 0 8 0) ((b.length : Nat) : Int)) (rdYE (rdR b 0 8 0) (rdE b 0 8 0) ((b.length : Nat) : Int)) ((b.length : Nat) : Int)) (rdYE (rdYR (rdR b 0 8 0) (rdE b 0 8 0) ((b.length : Nat) : Int)) (rdYE (rdR b 0 8 0) (rdE b 0 8 0) ((b.length : Nat) : Int)) ((b.length : Nat) : Int)))))]), .live (arrK 5 kU8 (rdY (rdR b 0 8 0) (rdE b 0 8 0) ((b.length : Nat) : Int))), .live (arrK 5 kU8 (rdY (rdYR (rdR b 0 8 0) (rdE b 0 8 0) ((b.length : Nat) : Int)) (rdYE (rdR b 0 8 0) (rdE b 0 8 0) ((b.length : Nat) : Int)) ((b.length : Nat) : Int)))]⟩) (fun _ _ hG => Gs.less (s := ⟨[slV tb nb kU8 b, aa, dv (.int .i64 0), dv (strV []), dv (.slice none 0 0), dv (.int .i64 12), pv 0 0, dv (.int .i64 (rdI b 0)), dv (strV (rdY (rdR b 0 8 0) (rdE b 0 8 0) ((b.length : Nat) : Int))), ownV 2 kU8 0 (rdY (rdYR (rdR b 0 8 0) (rdE b 0 8 0) ((b.length : Nat) : Int)) (rdYE (rdR b 0 8 0) (rdE b 0 8 0) ((b.length : Nat) : Int)) ((b.length : Nat) : Int)).length, aa, aa, aa, aa, aa, aa, aa, aa, aa, aa, aa, aa, aa, aa, aa, aa, aa, aa, aa, aa, aa, aa, aa, aa, aa, dv (.bool true)], [.live (.box 115 [.d (dsl false false kU8 (rdYR (rdYR (rdR b 0 8 0) (rdE b 0 8 0) ((b.length : Nat) : Int)) (rdYE (rdR b 0 8 0) (rdE b 0 8 0) ((b.length : Nat) : Int)) ((b.length : Nat) : Int))), .d (.val (.int .i64 (rdX (rdYR (rdYR (rdR b 0 8 0) (rdE b 0 8 0) ((b.length : Nat) : Int)) (rdYE (rdR b 0 8 0) (rdE b 0 8 0) ((b.length : Nat) : Int)) ((b.length : Nat) : Int)) (rdYE (rdYR (rdR b 0 8 0) (rdE b 0 8 0) ((b.length : Nat) : Int)) (rdYE (rdR b 0 8 0) (rdE b 0 8 0) ((b.length : Nat) : Int)) ((b.length : Nat) : Int)))))]), .live (arrK 5 kU8 (rdY (rdR b 0 8 0) (rdE b 0 8 0) ((b.length : Nat) : Int))), .live (arrK 5 kU8 (rdY (rdYR (rdR b 0 8 0) (rdE b 0 8 0) ((b.length : Nat) : Int)) (rdYE (rdR b 0 8 0) (rdE b 0 8 0) ((b.length : Nat) : Int)) ((b.length : Nat) : Int)))]⟩) ⟨(.inl rfl), ⟨(.inl rfl), ⟨(.inl rfl), ⟨(.inl rfl), ⟨(.inr ⟨rfl, rfl, rfl⟩), ⟨(.inl rfl), ⟨(.inl rfl), ⟨(.inl rfl), ⟨(.inl rfl), ⟨(.inl rfl), ⟨(.inl rfl), ⟨(.inl rfl), ⟨(.inl rfl), ⟨(.inl rfl), ⟨(.inl rfl), ⟨(.inl rfl), ⟨(.inl rfl), ⟨(.inl rfl), ⟨(.inl rfl), ⟨(.inl rfl), ⟨(.inl rfl), ⟨(.inl rfl), ⟨(.inl rfl), ⟨(.inl rfl), ⟨(.inl rfl), ⟨(.inl rfl), ⟨(.inl rfl), ⟨(.inl rfl), ⟨(.inl rfl), ⟨(.inl rfl), ⟨(.inl rfl), ⟨(.inl rfl), ⟨(.inl rfl), ⟨(.inl rfl), ⟨(.inl rfl), ⟨(.inl rfl), trivial⟩⟩⟩⟩⟩⟩⟩⟩⟩⟩⟩⟩⟩⟩⟩⟩⟩⟩⟩⟩⟩⟩⟩⟩⟩⟩⟩⟩⟩⟩⟩⟩⟩⟩⟩⟩ ⟨(.inl rfl), ⟨(.inl rfl), ⟨(.inl rfl), trivial⟩⟩⟩ hG) ?_
    exact tE (.inl rfl) [.t 2 (.one (.d (.val (.int .i64 0)))), .t 3 (.one (.d (.val (strV [])))), .t 4 (.one (.d (dsl false false kU8 ([] : List UInt8)))), .t 5 (.one (.d (.val (.int .i64 12))))] ⟨⟨rfl, by kernel_rfl⟩, ⟨⟨rfl, by kernel_rfl⟩, ⟨⟨rfl, by kernel_rfl⟩, ⟨⟨rfl, by kernel_rfl⟩, trivial⟩⟩⟩⟩ [] (by have e1 : (unH ((b.length : Nat) : Int) b : Int) = 0 := (by exact (if_neg hno)); have e2 : ((unD ((b.length : Nat) : Int) b) : List UInt8) = [] := (by exact (if_neg hno)); have e3 : ((unS ((b.length : Nat) : Int) b) : List UInt8) = ([] : List UInt8) := (by exact (if_neg hno)); have e4 : (unE ((b.length : Nat) : Int) b : Int) = 12 := (by exact (if_neg hno)); have hE := congr (congr (congr (congrArg (fun (q1 : Int) (q2 : List UInt8) (q3 : List UInt8) (q4 : Int) => (.tup [.one (.d (.val (.int .i64 q1))), .one (.d (.val (strV q2))), .one (.d (dsl false false kU8 q3)), .one (.d (.val (.int .i64 q4)))] : AV)) e1) e2) e3) e4; exact hE) rfl rfl rfl rfl rfl trivial
  · by_cases hq2 : (rdI b 0) < 0
    · have hno : ¬ okU ((b.length : Nat) : Int) b := (fun h9 => by have h8 := h9.2.1; omega)
      refine xR [hR 1 rfl rfl (r_call (rd_Err (rdYR (rdYR (rdR b 0 8 0) (rdE b 0 8 0) ((b.length : Nat) : Int)) (rdYE (rdR b 0 8 0) (rdE b 0 8 0) ((b.length : Nat) : Int)) ((b.length : Nat) : Int)) (rdX (rdYR (rdYR (rdR b 0 8 0) (rdE b 0 8 0) ((b.length : Nat) : Int)) (rdYE (rdR b 0 8 0) (rdE b 0 8 0) ((b.length : Nat) : Int)) ((b.length : Nat) : Int)) (rdYE (rdYR (rdR b 0 8 0) (rdE b 0 8 0) ((b.length : Nat) : Int)) (rdYE (rdR b 0 8 0) (rdE b 0 8 0) ((b.length : Nat) : Int)) ((b.length : Nat) : Int))) ) Try.func52 rfl (by decide) [0] [] (l := [(.tmp 25, pv 0 0)]) [] rfl 1 1 rfl rfl rfl rfl rfl rfl rfl rfl rfl ⟨.inl ⟨rfl, rfl⟩, trivial⟩ rfl (fun b hb => by cases hb) (.inl rfl) (lt_of rfl) trivial),
        hY 4 (decide_eq_false hq1),
        hY 5 (decide_eq_false hq1),
        hP 6 (decide_eq_false hq1),
        hN 8 false (decide_eq_true hq2),
        hN 9 false (decide_eq_true hq2),
        hP 10 (decide_eq_true hq2)] (by kernel_rfl) (by kernel_rfl) ?_
      refine nT ?_
      refine T.condT (b := true) (by kernel_rfl) rfl ?_
      refine T.seq ?_
      refine xR [] (by kernel_rfl) (by kernel_rfl) ?_
      refine nT ?_
      refine T.ret ?_
      refine rT ?_
      refine Ends.turn (s' := ⟨[slV tb nb kU8 b, aa, dv (.int .i64 0), dv (strV []), dv (.slice none 0 0), dv (.int .i64 12), pv 0 0, dv (.int .i64 (rdI b 0)), dv (strV (rdY (rdR b 0 8 0) (rdE b 0 8 0) ((b.length : Nat) : Int))), ownV 2 kU8 0 (rdY (rdYR (rdR b 0 8 0) (rdE b 0 8 0) ((b.length : Nat) : Int)) (rdYE (rdR b 0 8 0) (rdE b 0 8 0) ((b.length : Nat) : Int)) ((b.length : Nat) : Int)).length, aa, aa, aa, aa, aa, aa, aa, aa, aa, aa, aa, aa, aa, aa, aa, aa, aa, aa, aa, aa, aa, aa, aa, aa, aa, dv (.bool true)], [.live (.box 115 [.d (dsl false false kU8 (rdYR (rdYR (rdR b 0 8 0) (rdE b 0 8 0) ((b.length : Nat) : Int)) (rdYE (rdR b 0 8 0) (rdE b 0 8 0) ((b.length : Nat) : Int)) ((b.length : Nat) : Int))), .d (.val (.int .i64 (rdX (rdYR (rdYR (rdR b 0 8 0) (rdE b 0 8 0) ((b.length : Nat) : Int)) (rdYE (rdR b 0 8 0) (rdE b 0 8 0) ((b.length : Nat) : Int)) ((b.length : Nat) : Int)) (rdYE (rdYR (rdR b 0 8 0) (rdE b 0 8 0) ((b.length : Nat) : Int)) (rdYE (rdR b 0 8 0) (rdE b 0 8 0) ((b.length : Nat) : Int)) ((b.length : Nat) : Int)))))]), .live (arrK 5 kU8 (rdY (rdR b 0 8 0) (rdE b 0 8 0) ((b.length : Nat) : Int))), .live (arrK 5 kU8 (rdY (rdYR (rdR b 0 8 0) (rdE b 0 8 0) ((b.length : Nat) : Int)) (rdYE (rdR b 0 8 0) (rdE b 0 8 0) ((b.length : Nat) : Int)) ((b.length : Nat) : Int)))]⟩) (fun _ _ hG => Gs.norm (by kernel_rfl) hG) ?_
      refine Ends.turn (s' := ⟨[slV tb nb kU8 b, aa, dv (.int .i64 0), dv (strV []), slV false false kU8 ([] : List UInt8), dv (.int .i64 12), pv 0 0, dv (.int .i64 (rdI b 0)), dv (strV (rdY (rdR b 0 8 0) (rdE b 0 8 0) ((b.length : Nat) : Int))), ownV 2 kU8 0 (rdY (rdYR (rdR b 0 8 0) (rdE b 0 8 0) ((b.length : Nat) : Int)) (rdYE (rdR b 0 8 0) (rdE b 0 8 0) ((b.length : Nat) : Int)) ((b.length : Nat) : Int)).length, aa, aa, aa, aa, aa, aa, aa, aa, aa, aa, aa, aa, aa, aa, aa, aa, aa, aa, aa, aa, aa, aa, aa, aa, aa, dv (.bool true)], [.live (.box 115 [.d (dsl false false kU8 (rdYR (rdYR (rdR b 0 8 0) (rdE b 0 8 0) ((b.length : Nat) : Int)) (rdYE (rdR b 0 8 0) (rdE b 0 8 0) ((b.length : Nat) : Int)) ((b.length : Nat) : Int))), .d (.val (.int .i64 (rdX (rdYR (rdYR (rdR b 0 8 0) (rdE b 0 8 0) ((b.length : Nat) : Int)) (rdYE (rdR b 0 8 0) (rdE b 0 8 0) ((b.length : Nat) : Int)) ((b.length : Nat) : Int)) (rdYE (rdYR (rdR b 0 8 0) (rdE b 0 8 0) ((b.length : Nat) : Int)) (rdYE (rdR b 0 8 0) (rdE b 0 8 0) ((b.length : Nat) : Int)) ((b.length : Nat) : Int)))))]), .live (arrK 5 kU8 (rdY (rdR b 0 8 0) (rdE b 0 8 0) ((b.length : Nat) : Int))), .live (arrK 5 kU8 (rdY (rdYR (rdR b 0 8 0) (rdE b 0 8 0) ((b.length : Nat) : Int)) (rdYE (rdR b 0 8 0) (rdE b 0 8 0) ((b.length : Nat) : Int)) ((b.length : Nat) : Int)))]⟩) (fun _ _ hG => Gs.less (s := ⟨[slV tb nb kU8 b, aa, dv (.int .i64 0), dv (strV []), dv (.slice none 0 0), dv (.int .i64 12), pv 0 0, dv (.int .i64 (rdI b 0)), dv (strV (rdY (rdR b 0 8 0) (rdE b 0 8 0) ((b.length : Nat) : Int))), ownV 2 kU8 0 (rdY (rdYR (rdR b 0 8 0) (rdE b 0 8 0) ((b.length : Nat) : Int)) (rdYE (rdR b 0 8 0) (rdE b 0 8 0) ((b.length : Nat) : Int)) ((b.length : Nat) : Int)).length, aa, aa, aa, aa, aa, aa, aa, aa, aa, aa, aa, aa, aa, aa, aa, aa, aa, aa, aa, aa, aa, aa, aa, aa, aa, dv (.bool true)], [.live (.box 115 [.d (dsl false false kU8 (rdYR (rdYR (rdR b 0 8 0) (rdE b 0 8 0) ((b.length : Nat) : Int)) (rdYE (rdR b 0 8 0) (rdE b 0 8 0) ((b.length : Nat) : Int)) ((b.length : Nat) : Int))), .d (.val (.int .i64 (rdX (rdYR (rdYR (rdR b 0 8 0) (rdE b 0 8 0) ((b.length : Nat) : Int)) (rdYE (rdR b 0 8 0) (rdE b 0 8 0) ((b.length : Nat) : Int)) ((b.length : Nat) : Int)) (rdYE (rdYR (rdR b 0 8 0) (rdE b 0 8 0) ((b.length : Nat) : Int)) (rdYE (rdR b 0 8 0) (rdE b 0 8 0) ((b.length : Nat) : Int)) ((b.length : Nat) : Int)))))]), .live (arrK 5 kU8 (rdY (rdR b 0 8 0) (rdE b 0 8 0) ((b.length : Nat) : Int))), .live (arrK 5 kU8 (rdY (rdYR (rdR b 0 8 0) (rdE b 0 8 0) ((b.length : Nat) : Int)) (rdYE (rdR b 0 8 0) (rdE b 0 8 0) ((b.length : Nat) : Int)) ((b.length : Nat) : Int)))]⟩) ⟨(.inl rfl), ⟨(.inl rfl), ⟨(.inl rfl), ⟨(.inl rfl), ⟨(.inr ⟨rfl, rfl, rfl⟩), ⟨(.inl rfl), ⟨(.inl rfl), ⟨(.inl rfl), ⟨(.inl rfl), ⟨(.inl rfl), ⟨(.inl rfl), ⟨(.inl rfl), ⟨(.inl rfl), ⟨(.inl rfl), ⟨(.inl rfl), ⟨(.inl rfl), ⟨(.inl rfl), ⟨(.inl rfl), ⟨(.inl rfl), ⟨(.inl rfl), ⟨(.inl rfl), ⟨(.inl rfl), ⟨(.inl rfl), ⟨(.inl rfl), ⟨(.inl rfl), ⟨(.inl rfl), ⟨(.inl rfl), ⟨(.inl rfl), ⟨(.inl rfl), ⟨(.inl rfl), ⟨(.inl rfl), ⟨(.inl rfl), ⟨(.inl rfl), ⟨(.inl rfl), ⟨(.inl rfl), ⟨(.inl rfl), trivial⟩⟩⟩⟩⟩⟩⟩⟩⟩⟩⟩⟩⟩⟩⟩⟩⟩⟩⟩⟩⟩⟩⟩⟩⟩⟩⟩⟩⟩⟩⟩⟩⟩⟩⟩⟩ ⟨(.inl rfl), ⟨(.inl rfl), ⟨(.inl rfl), trivial⟩⟩⟩ hG) ?_
      exact tE (.inl rfl) [.t 2 (.one (.d (.val (.int .i64 0)))), .t 3 (.one (.d (.val (strV [])))), .t 4 (.one (.d (dsl false false kU8 ([] : List UInt8)))), .t 5 (.one (.d (.val (.int .i64 12))))] ⟨⟨rfl, by kernel_rfl⟩, ⟨⟨rfl, by kernel_rfl⟩, ⟨⟨rfl, by kernel_rfl⟩, ⟨⟨rfl, by kernel_rfl⟩, trivial⟩⟩⟩⟩ [] (by have e1 : (unH ((b.length : Nat) : Int) b : Int) = 0 := (by exact (if_neg hno)); have e2 : ((unD ((b.length : Nat) : Int) b) : List UInt8) = [] := (by exact (if_neg hno)); have e3 : ((unS ((b.length : Nat) : Int) b) : List UInt8) = ([] : List UInt8) := (by exact (if_neg hno)); have e4 : (unE ((b.length : Nat) : Int) b : Int) = 12 := (by exact (if_neg hno)); have hE := congr (congr (congr (congrArg (fun (q1 : Int) (q2 : List UInt8) (q3 : List UInt8) (q4 : Int) => (.tup [.one (.d (.val (.int .i64 q1))), .one (.d (.val (strV q2))), .one (.d (dsl false false kU8 q3)), .one (.d (.val (.int .i64 q4)))] : AV)) e1) e2) e3) e4; exact hE) rfl rfl rfl rfl rfl trivial
    · refine xR [hR 1 rfl rfl (r_call (rd_Err (rdYR (rdYR (rdR b 0 8 0) (rdE b 0 8 0) ((b.length : Nat) : Int)) (rdYE (rdR b 0 8 0) (rdE b 0 8 0) ((b.length : Nat) : Int)) ((b.length : Nat) : Int)) (rdX (rdYR (rdYR (rdR b 0 8 0) (rdE b 0 8 0) ((b.length : Nat) : Int)) (rdYE (rdR b 0 8 0) (rdE b 0 8 0) ((b.length : Nat) : Int)) ((b.length : Nat) : Int)) (rdYE (rdYR (rdR b 0 8 0) (rdE b 0 8 0) ((b.length : Nat) : Int)) (rdYE (rdR b 0 8 0) (rdE b 0 8 0) ((b.length : Nat) : Int)) ((b.length : Nat) : Int))) ) Try.func52 rfl (by decide) [0] [] (l := [(.tmp 25, pv 0 0)]) [] rfl 1 1 rfl rfl rfl rfl rfl rfl rfl rfl rfl ⟨.inl ⟨rfl, rfl⟩, trivial⟩ rfl (fun b hb => by cases hb) (.inl rfl) (lt_of rfl) trivial),
        hY 4 (decide_eq_false hq1),
        hY 5 (decide_eq_false hq1),
        hP 6 (decide_eq_false hq1),
        hY 8 (decide_eq_false hq2),
        hY 9 (decide_eq_false hq2),
        hP 10 (decide_eq_false hq2)] (by kernel_rfl) (by kernel_rfl) ?_
      refine nT ?_
      by_cases hq3 : (rdI b 0) > 1099511627776
      · have hno : ¬ okU ((b.length : Nat) : Int) b := (fun h9 => by have h8 := h9.2.2; omega)
        refine T.condT (by kernel_rfl) (decide_eq_true hq3) ?_
        refine T.seq ?_
        refine xR [] (by kernel_rfl) (by kernel_rfl) ?_
        refine nT ?_
        refine T.ret ?_
        refine rT ?_
        refine Ends.turn (s' := ⟨[slV tb nb kU8 b, aa, dv (.int .i64 0), dv (strV []), dv (.slice none 0 0), dv (.int .i64 12), pv 0 0, dv (.int .i64 (rdI b 0)), dv (strV (rdY (rdR b 0 8 0) (rdE b 0 8 0) ((b.length : Nat) : Int))), ownV 2 kU8 0 (rdY (rdYR (rdR b 0 8 0) (rdE b 0 8 0) ((b.length : Nat) : Int)) (rdYE (rdR b 0 8 0) (rdE b 0 8 0) ((b.length : Nat) : Int)) ((b.length : Nat) : Int)).length, aa, aa, aa, aa, aa, aa, aa, aa, aa, aa, aa, aa, aa, aa, aa, aa, aa, aa, aa, aa, aa, aa, aa, aa, aa, dv (.bool (decide ((rdI b 0) > 1099511627776)))], [.live (.box 115 [.d (dsl false false kU8 (rdYR (rdYR (rdR b 0 8 0) (rdE b 0 8 0) ((b.length : Nat) : Int)) (rdYE (rdR b 0 8 0) (rdE b 0 8 0) ((b.length : Nat) : Int)) ((b.length : Nat) : Int))), .d (.val (.int .i64 (rdX (rdYR (rdYR (rdR b 0 8 0) (rdE b 0 8 0) ((b.length : Nat) : Int)) (rdYE (rdR b 0 8 0) (rdE b 0 8 0) ((b.length : Nat) : Int)) ((b.length : Nat) : Int)) (rdYE (rdYR (rdR b 0 8 0) (rdE b 0 8 0) ((b.length : Nat) : Int)) (rdYE (rdR b 0 8 0) (rdE b 0 8 0) ((b.length : Nat) : Int)) ((b.length : Nat) : Int)))))]), .live (arrK 5 kU8 (rdY (rdR b 0 8 0) (rdE b 0 8 0) ((b.length : Nat) : Int))), .live (arrK 5 kU8 (rdY (rdYR (rdR b 0 8 0) (rdE b 0 8 0) ((b.length : Nat) : Int)) (rdYE (rdR b 0 8 0) (rdE b 0 8 0) ((b.length : Nat) : Int)) ((b.length : Nat) : Int)))]⟩) (fun _ _ hG => Gs.norm (by kernel_rfl) hG) ?_
        refine Ends.turn (s' := ⟨[slV tb nb kU8 b, aa, dv (.int .i64 0), dv (strV []), slV false false kU8 ([] : List UInt8), dv (.int .i64 12), pv 0 0, dv (.int .i64 (rdI b 0)), dv (strV (rdY (rdR b 0 8 0) (rdE b 0 8 0) ((b.length : Nat) : Int))), ownV 2 kU8 0 (rdY (rdYR (rdR b 0 8 0) (rdE b 0 8 0) ((b.length : Nat) : Int)) (rdYE (rdR b 0 8 0) (rdE b 0 8 0) ((b.length : Nat) : Int)) ((b.length : Nat) : Int)).length, aa, aa, aa, aa, aa, aa, aa, aa, aa, aa, aa, aa, aa, aa, aa, aa, aa, aa, aa, aa, aa, aa, aa, aa, aa, dv (.bool (decide ((rdI b 0) > 1099511627776)))], [.live (.box 115 [.d (dsl false false kU8 (rdYR (rdYR (rdR b 0 8 0) (rdE b 0 8 0) ((b.length : Nat) : Int)) (rdYE (rdR b 0 8 0) (rdE b 0 8 0) ((b.length : Nat) : Int)) ((b.length : Nat) : Int))), .d (.val (.int .i64 (rdX (rdYR (rdYR (rdR b 0 8 0) (rdE b 0 8 0) ((b.length : Nat) : Int)) (rdYE (rdR b 0 8 0) (rdE b 0 8 0) ((b.length : Nat) : Int)) ((b.length : Nat) : Int)) (rdYE (rdYR (rdR b 0 8 0) (rdE b 0 8 0) ((b.length : Nat) : Int)) (rdYE (rdR b 0 8 0) (rdE b 0 8 0) ((b.length : Nat) : Int)) ((b.length : Nat) : Int)))))]), .live (arrK 5 kU8 (rdY (rdR b 0 8 0) (rdE b 0 8 0) ((b.length : Nat) : Int))), .live (arrK 5 kU8 (rdY (rdYR (rdR b 0 8 0) (rdE b 0 8 0) ((b.length : Nat) : Int)) (rdYE (rdR b 0 8 0) (rdE b 0 8 0) ((b.length : Nat) : Int)) ((b.length : Nat) : Int)))]⟩) (fun _ _ hG => Gs.less (s := ⟨[slV tb nb kU8 b, aa, dv (.int .i64 0), dv (strV []), dv (.slice none 0 0), dv (.int .i64 12), pv 0 0, dv (.int .i64 (rdI b 0)), dv (strV (rdY (rdR b 0 8 0) (rdE b 0 8 0) ((b.length : Nat) : Int))), ownV 2 kU8 0 (rdY (rdYR (rdR b 0 8 0) (rdE b 0 8 0) ((b.length : Nat) : Int)) (rdYE (rdR b 0 8 0) (rdE b 0 8 0) ((b.length : Nat) : Int)) ((b.length : Nat) : Int)).length, aa, aa, aa, aa, aa, aa, aa, aa, aa, aa, aa, aa, aa, aa, aa, aa, aa, aa, aa, aa, aa, aa, aa, aa, aa, dv (.bool (decide ((rdI b 0) > 1099511627776)))], [.live (.box 115 [.d (dsl false false kU8 (rdYR (rdYR (rdR b 0 8 0) (rdE b 0 8 0) ((b.length : Nat) : Int)) (rdYE (rdR b 0 8 0) (rdE b 0 8 0) ((b.length : Nat) : Int)) ((b.length : Nat) : Int))), .d (.val (.int .i64 (rdX (rdYR (rdYR (rdR b 0 8 0) (rdE b 0 8 0) ((b.length : Nat) : Int)) (rdYE (rdR b 0 8 0) (rdE b 0 8 0) ((b.length : Nat) : Int)) ((b.length : Nat) : Int)) (rdYE (rdYR (rdR b 0 8 0) (rdE b 0 8 0) ((b.length : Nat) : Int)) (rdYE (rdR b 0 8 0) (rdE b 0 8 0) ((b.length : Nat) : Int)) ((b.length : Nat) : Int)))))]), .live (arrK 5 kU8 (rdY (rdR b 0 8 0) (rdE b 0 8 0) ((b.length : Nat) : Int))), .live (arrK 5 kU8 (rdY (rdYR (rdR b 0 8 0) (rdE b 0 8 0) ((b.length : Nat) : Int)) (rdYE (rdR b 0 8 0) (rdE b 0 8 0) ((b.length : Nat) : Int)) ((b.length : Nat) : Int)))]⟩) ⟨(.inl rfl), ⟨(.inl rfl), ⟨(.inl rfl), ⟨(.inl rfl), ⟨(.inr ⟨rfl, rfl, rfl⟩), ⟨(.inl rfl), ⟨(.inl rfl), ⟨(.inl rfl), ⟨(.inl rfl), ⟨(.inl rfl), ⟨(.inl rfl), ⟨(.inl rfl), ⟨(.inl rfl), ⟨(.inl rfl), ⟨(.inl rfl), ⟨(.inl rfl), ⟨(.inl rfl), ⟨(.inl rfl), ⟨(.inl rfl), ⟨(.inl rfl), ⟨(.inl rfl), ⟨(.inl rfl), ⟨(.inl rfl), ⟨(.inl rfl), ⟨(.inl rfl), ⟨(.inl rfl), ⟨(.inl rfl), ⟨(.inl rfl), ⟨(.inl rfl), ⟨(.inl rfl), ⟨(.inl rfl), ⟨(.inl rfl), ⟨(.inl rfl), ⟨(.inl rfl), ⟨(.inl rfl), ⟨(.inl rfl), trivial⟩⟩⟩⟩⟩⟩⟩⟩⟩⟩⟩⟩⟩⟩⟩⟩⟩⟩⟩⟩⟩⟩⟩⟩⟩⟩⟩⟩⟩⟩⟩⟩⟩⟩⟩⟩ ⟨(.inl rfl), ⟨(.inl rfl), ⟨(.inl rfl), trivial⟩⟩⟩ hG) ?_
        exact tE (.inl rfl) [.t 2 (.one (.d (.val (.int .i64 0)))), .t 3 (.one (.d (.val (strV [])))), .t 4 (.one (.d (dsl false false kU8 ([] : List UInt8)))), .t 5 (.one (.d (.val (.int .i64 12))))] ⟨⟨rfl, by kernel_rfl⟩, ⟨⟨rfl, by kernel_rfl⟩, ⟨⟨rfl, by kernel_rfl⟩, ⟨⟨rfl, by kernel_rfl⟩, trivial⟩⟩⟩⟩ [] (by have e1 : (unH ((b.length : Nat) : Int) b : Int) = 0 := (by exact (if_neg hno)); have e2 : ((unD ((b.length : Nat) : Int) b) : List UInt8) = [] := (by exact (if_neg hno)); have e3 : ((unS ((b.length : Nat) : Int) b) : List UInt8) = ([] : List UInt8) := (by exact (if_neg hno)); have e4 : (unE ((b.length : Nat) : Int) b : Int) = 12 := (by exact (if_neg hno)); have hE := congr (congr (congr (congrArg (fun (q1 : Int) (q2 : List UInt8) (q3 : List UInt8) (q4 : Int) => (.tup [.one (.d (.val (.int .i64 q1))), .one (.d (.val (strV q2))), .one (.d (dsl false false kU8 q3)), .one (.d (.val (.int .i64 q4)))] : AV)) e1) e2) e3) e4; exact hE) rfl rfl rfl rfl rfl trivial
      · have hok : okU ((b.length : Nat) : Int) b := ⟨Classical.not_not.1 (by assumption), by omega, by omega⟩
        refine T.condF (by kernel_rfl) (decide_eq_false hq3) ?_
        refine T.skip ?_
        refine nT ?_
        refine T.seq ?_
        refine xR [] (by kernel_rfl) (by kernel_rfl) ?_
        refine nT ?_
        refine T.ret ?_
        refine Ends.turn (s' := ⟨[slV tb nb kU8 b, aa, dv (.int .i64 (rdI b 0)), dv (strV (rdY (rdR b 0 8 0) (rdE b 0 8 0) ((b.length : Nat) : Int))), ownV 2 kU8 0 (rdY (rdYR (rdR b 0 8 0) (rdE b 0 8 0) ((b.length : Nat) : Int)) (rdYE (rdR b 0 8 0) (rdE b 0 8 0) ((b.length : Nat) : Int)) ((b.length : Nat) : Int)).length, dv (.int .i64 0), pv 0 0, dv (.int .i64 (rdI b 0)), dv (strV (rdY (rdR b 0 8 0) (rdE b 0 8 0) ((b.length : Nat) : Int))), ownV 2 kU8 0 (rdY (rdYR (rdR b 0 8 0) (rdE b 0 8 0) ((b.length : Nat) : Int)) (rdYE (rdR b 0 8 0) (rdE b 0 8 0) ((b.length : Nat) : Int)) ((b.length : Nat) : Int)).length, aa, aa, aa, aa, aa, aa, aa, aa, aa, aa, aa, aa, aa, aa, aa, aa, aa, aa, aa, aa, aa, aa, aa, aa, aa, dv (.bool (decide ((rdI b 0) > 1099511627776)))], [.live (.box 115 [.d (dsl false false kU8 (rdYR (rdYR (rdR b 0 8 0) (rdE b 0 8 0) ((b.length : Nat) : Int)) (rdYE (rdR b 0 8 0) (rdE b 0 8 0) ((b.length : Nat) : Int)) ((b.length : Nat) : Int))), .d (.val (.int .i64 (rdX (rdYR (rdYR (rdR b 0 8 0) (rdE b 0 8 0) ((b.length : Nat) : Int)) (rdYE (rdR b 0 8 0) (rdE b 0 8 0) ((b.length : Nat) : Int)) ((b.length : Nat) : Int)) (rdYE (rdYR (rdR b 0 8 0) (rdE b 0 8 0) ((b.length : Nat) : Int)) (rdYE (rdR b 0 8 0) (rdE b 0 8 0) ((b.length : Nat) : Int)) ((b.length : Nat) : Int)))))]), .live (arrK 5 kU8 (rdY (rdR b 0 8 0) (rdE b 0 8 0) ((b.length : Nat) : Int))), .live (arrK 5 kU8 (rdY (rdYR (rdR b 0 8 0) (rdE b 0 8 0) ((b.length : Nat) : Int)) (rdYE (rdR b 0 8 0) (rdE b 0 8 0) ((b.length : Nat) : Int)) ((b.length : Nat) : Int)))]⟩) (fun _ _ hG => Gs.norm (by kernel_rfl) hG) ?_
        refine Ends.turn (s' := ⟨[slV tb nb kU8 b, aa, dv (.int .i64 (rdI b 0)), dv (strV (rdY (rdR b 0 8 0) (rdE b 0 8 0) ((b.length : Nat) : Int))), slV false false kU8 (rdY (rdYR (rdR b 0 8 0) (rdE b 0 8 0) ((b.length : Nat) : Int)) (rdYE (rdR b 0 8 0) (rdE b 0 8 0) ((b.length : Nat) : Int)) ((b.length : Nat) : Int)), dv (.int .i64 0), pv 0 0, dv (.int .i64 (rdI b 0)), dv (strV (rdY (rdR b 0 8 0) (rdE b 0 8 0) ((b.length : Nat) : Int))), slV false false kU8 (rdY (rdYR (rdR b 0 8 0) (rdE b 0 8 0) ((b.length : Nat) : Int)) (rdYE (rdR b 0 8 0) (rdE b 0 8 0) ((b.length : Nat) : Int)) ((b.length : Nat) : Int)), aa, aa, aa, aa, aa, aa, aa, aa, aa, aa, aa, aa, aa, aa, aa, aa, aa, aa, aa, aa, aa, aa, aa, aa, aa, dv (.bool (decide ((rdI b 0) > 1099511627776)))], [.live (.box 115 [.d (dsl false false kU8 (rdYR (rdYR (rdR b 0 8 0) (rdE b 0 8 0) ((b.length : Nat) : Int)) (rdYE (rdR b 0 8 0) (rdE b 0 8 0) ((b.length : Nat) : Int)) ((b.length : Nat) : Int))), .d (.val (.int .i64 (rdX (rdYR (rdYR (rdR b 0 8 0) (rdE b 0 8 0) ((b.length : Nat) : Int)) (rdYE (rdR b 0 8 0) (rdE b 0 8 0) ((b.length : Nat) : Int)) ((b.length : Nat) : Int)) (rdYE (rdYR (rdR b 0 8 0) (rdE b 0 8 0) ((b.length : Nat) : Int)) (rdYE (rdR b 0 8 0) (rdE b 0 8 0) ((b.length : Nat) : Int)) ((b.length : Nat) : Int)))))]), .live (arrK 5 kU8 (rdY (rdR b 0 8 0) (rdE b 0 8 0) ((b.length : Nat) : Int))), .dead]⟩) (fun _ _ hG => Gs.freeze (s := ⟨[slV tb nb kU8 b, aa, dv (.int .i64 (rdI b 0)), dv (strV (rdY (rdR b 0 8 0) (rdE b 0 8 0) ((b.length : Nat) : Int))), ownV 2 kU8 0 (rdY (rdYR (rdR b 0 8 0) (rdE b 0 8 0) ((b.length : Nat) : Int)) (rdYE (rdR b 0 8 0) (rdE b 0 8 0) ((b.length : Nat) : Int)) ((b.length : Nat) : Int)).length, dv (.int .i64 0), pv 0 0, dv (.int .i64 (rdI b 0)), dv (strV (rdY (rdR b 0 8 0) (rdE b 0 8 0) ((b.length : Nat) : Int))), ownV 2 kU8 0 (rdY (rdYR (rdR b 0 8 0) (rdE b 0 8 0) ((b.length : Nat) : Int)) (rdYE (rdR b 0 8 0) (rdE b 0 8 0) ((b.length : Nat) : Int)) ((b.length : Nat) : Int)).length, aa, aa, aa, aa, aa, aa, aa, aa, aa, aa, aa, aa, aa, aa, aa, aa, aa, aa, aa, aa, aa, aa, aa, aa, aa, dv (.bool (decide ((rdI b 0) > 1099511627776)))], [.live (.box 115 [.d (dsl false false kU8 (rdYR (rdYR (rdR b 0 8 0) (rdE b 0 8 0) ((b.length : Nat) : Int)) (rdYE (rdR b 0 8 0) (rdE b 0 8 0) ((b.length : Nat) : Int)) ((b.length : Nat) : Int))), .d (.val (.int .i64 (rdX (rdYR (rdYR (rdR b 0 8 0) (rdE b 0 8 0) ((b.length : Nat) : Int)) (rdYE (rdR b 0 8 0) (rdE b 0 8 0) ((b.length : Nat) : Int)) ((b.length : Nat) : Int)) (rdYE (rdYR (rdR b 0 8 0) (rdE b 0 8 0) ((b.length : Nat) : Int)) (rdYE (rdR b 0 8 0) (rdE b 0 8 0) ((b.length : Nat) : Int)) ((b.length : Nat) : Int)))))]), .live (arrK 5 kU8 (rdY (rdR b 0 8 0) (rdE b 0 8 0) ((b.length : Nat) : Int))), .live (arrK 5 kU8 (rdY (rdYR (rdR b 0 8 0) (rdE b 0 8 0) ((b.length : Nat) : Int)) (rdYE (rdR b 0 8 0) (rdE b 0 8 0) ((b.length : Nat) : Int)) ((b.length : Nat) : Int)))]⟩) 2 (el := elOf kU8 (rdY (rdYR (rdR b 0 8 0) (rdE b 0 8 0) ((b.length : Nat) : Int)) (rdYE (rdR b 0 8 0) (rdE b 0 8 0) ((b.length : Nat) : Int)) ((b.length : Nat) : Int))) (sz := kU8.sz) (n := (rdY (rdYR (rdR b 0 8 0) (rdE b 0 8 0) ((b.length : Nat) : Int)) (rdYE (rdR b 0 8 0) (rdE b 0 8 0) ((b.length : Nat) : Int)) ((b.length : Nat) : Int)).length) rfl ⟨(.inl rfl), ⟨(.inl rfl), ⟨(.inl rfl), ⟨(.inl rfl), ⟨(.inr (.inr ⟨rfl, rfl, rfl, (fun h => by cases h), rfl, rfl, by omega, fun i j _ => by rw [Nat.zero_add]⟩)), ⟨(.inl rfl), ⟨(.inl rfl), ⟨(.inl rfl), ⟨(.inl rfl), ⟨(.inr (.inr ⟨rfl, rfl, rfl, (fun h => by cases h), rfl, rfl, by omega, fun i j _ => by rw [Nat.zero_add]⟩)), ⟨(.inl rfl), ⟨(.inl rfl), ⟨(.inl rfl), ⟨(.inl rfl), ⟨(.inl rfl), ⟨(.inl rfl), ⟨(.inl rfl), ⟨(.inl rfl), ⟨(.inl rfl), ⟨(.inl rfl), ⟨(.inl rfl), ⟨(.inl rfl), ⟨(.inl rfl), ⟨(.inl rfl), ⟨(.inl rfl), ⟨(.inl rfl), ⟨(.inl rfl), ⟨(.inl rfl), ⟨(.inl rfl), ⟨(.inl rfl), ⟨(.inl rfl), ⟨(.inl rfl), ⟨(.inl rfl), ⟨(.inl rfl), ⟨(.inl rfl), ⟨(.inl rfl), trivial⟩⟩⟩⟩⟩⟩⟩⟩⟩⟩⟩⟩⟩⟩⟩⟩⟩⟩⟩⟩⟩⟩⟩⟩⟩⟩⟩⟩⟩⟩⟩⟩⟩⟩⟩⟩ ⟨(.inr ⟨by decide, .inl rfl⟩), ⟨(.inr ⟨by decide, .inl rfl⟩), ⟨(.inl ⟨rfl, rfl⟩), trivial⟩⟩⟩ hG) ?_
        exact tE (.inl rfl) [.t 2 (.one (.d (.val (.int .i64 (rdI b 0))))), .t 3 (.one (.d (.val (strV (rdY (rdR b 0 8 0) (rdE b 0 8 0) ((b.length : Nat) : Int)))))), .t 4 (.one (.d (dsl false false kU8 (rdY (rdYR (rdR b 0 8 0) (rdE b 0 8 0) ((b.length : Nat) : Int)) (rdYE (rdR b 0 8 0) (rdE b 0 8 0) ((b.length : Nat) : Int)) ((b.length : Nat) : Int))))), .t 5 (.one (.d (.val (.int .i64 0))))] ⟨⟨rfl, by kernel_rfl⟩, ⟨⟨rfl, by kernel_rfl⟩, ⟨⟨rfl, by kernel_rfl⟩, ⟨⟨rfl, by kernel_rfl⟩, trivial⟩⟩⟩⟩ [] (by have e1 : (unH ((b.length : Nat) : Int) b : Int) = rdI b 0 := (by exact (if_pos hok)); have e2 : ((unD ((b.length : Nat) : Int) b) : List UInt8) = (rdY (rdR b 0 8 0) (rdE b 0 8 0) ((b.length : Nat) : Int)) := (by exact (if_pos hok)); have e3 : ((unS ((b.length : Nat) : Int) b) : List UInt8) = (rdY (rdYR (rdR b 0 8 0) (rdE b 0 8 0) ((b.length : Nat) : Int)) (rdYE (rdR b 0 8 0) (rdE b 0 8 0) ((b.length : Nat) : Int)) ((b.length : Nat) : Int)) := (by exact (if_pos hok)); have e4 : (unE ((b.length : Nat) : Int) b : Int) = 0 := (by exact (if_pos hok)); have hE := congr (congr (congr (congrArg (fun (q1 : Int) (q2 : List UInt8) (q3 : List UInt8) (q4 : Int) => (.tup [.one (.d (.val (.int .i64 q1))), .one (.d (.val (strV q2))), .one (.d (dsl false false kU8 q3)), .one (.d (.val (.int .i64 q4)))] : AV)) e1) e2) e3) e4; exact hE) rfl rfl rfl rfl rfl trivial
end Go.Proofs.Ytdclfhahcfefeaa.Q
