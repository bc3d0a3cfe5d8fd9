import Derived.Test.YtalapplihdmenaaGreatC13n12
namespace Go.Proofs.YtalapplihdmenaaGreat.Q
set_option linter.unusedVariables false
set_option linter.unusedSimpArgs false
theorem back_intX {n : Int} (hn : i64R n) (r : List UInt8) : rdI (intB n ++ r) 0 = n ∧ rdR (intB n ++ r) 0 8 0 = r ∧ rdE (intB n ++ r) 0 8 0 = 0 := by
  have hk : okT (intB n ++ r) 0 8 0 := okT_app (int_len n)
  refine ⟨?_, ?_, rdE_ok hk⟩
  · rw [rdI, if_pos hk, take_app (int_len n), intB, num_spell (Nat.lt_of_lt_of_le (u64_lt n) (by decide)), toI64_u64 hn]
  · rw [rdR_ok hk]; exact drop_app (int_len n)
theorem rdI_range (r : List UInt8) (e : Int) : i64R (rdI r e) := by
  unfold rdI i64R
  split
  · have := numL_lt8 (l := r.take 8) (List.length_take_le _ _)
    unfold toI64
    split <;> omega
  · omega
theorem rdX_ok {r : List UInt8} {e : Int} (h : rdX r e = 0) : e = 0 ∧ r = [] := by
  unfold rdX at h
  split at h
  · cases h
  · rename_i h1
    refine ⟨h, ?_⟩
    cases r with
    | nil => rfl
    | cons a r => exact absurd ⟨h, by simp <;> omega⟩ h1
end Go.Proofs.YtalapplihdmenaaGreat.Q
namespace Go.Proofs.YtalapplihdmenaaGreat.Q
set_option linter.unusedVariables false
set_option linter.unusedSimpArgs false
theorem lim_big {rest : List UInt8} {M : Int} (hM : ((rest.length : Nat) : Int) ≤ M) (h : numL (rest.take 4) ≤ (rest.drop 4).length) : limE M (rest.take 4) = 0 := by
  unfold limE
  rw [List.length_drop] at h
  rw [if_neg (by omega)]
theorem okY_any {rest : List UInt8} {e M M' : Int} (hM : ((rest.length : Nat) : Int) ≤ M) (hM' : ((rest.length : Nat) : Int) ≤ M') (h : okY rest e M) : okY rest e M' := by
  obtain ⟨h1, h2⟩ := h
  exact ⟨⟨h1.1, h1.2.1, lim_big hM' h2⟩, h2⟩
theorem rdYE_ok {rest : List UInt8} {e M : Int} : rdYE rest e M = 0 ↔ okY rest e M := by
  unfold rdYE okY
  constructor
  · intro h
    split at h
    · rename_i h1
      split at h
      · rename_i h2; exact ⟨h1, h2⟩
      · cases h
    · rename_i h1; exact absurd h (rdE_no h1)
  · rintro ⟨h1, h2⟩
    rw [if_pos h1, if_pos h2]
theorem rdY_any {rest : List UInt8} {e M M' : Int} (hM : ((rest.length : Nat) : Int) ≤ M) (hM' : ((rest.length : Nat) : Int) ≤ M') (h : rdYE rest e M = 0) : rdYE rest e M' = 0 ∧ rdY rest e M' = rdY rest e M ∧ rdYR rest e M' = rdYR rest e M := by
  have h1 := rdYE_ok.1 h
  have h2 := okY_any hM hM' h1
  exact ⟨rdYE_ok.2 h2, by rw [rdY, rdY, if_pos h1, if_pos h2], by rw [rdYR, rdYR, if_pos h1, if_pos h2]⟩
end Go.Proofs.YtalapplihdmenaaGreat.Q
namespace Go.Proofs.YtalapplihdmenaaGreat.Q
set_option linter.unusedVariables false
set_option linter.unusedSimpArgs false
def posB (B r : List UInt8) : Nat := B.length - r.length
theorem pos_le (B r : List UInt8) : posB B r ≤ B.length := Nat.sub_le _ _
section
variable {B r : List UInt8}
theorem drop_pos (h : r <:+ B) : B.drop (posB B r) = r := (List.suffix_iff_eq_drop.1 h).symm
theorem pos_0 : posB B B = 0 := Nat.sub_self _
theorem rdR_suf (r : List UInt8) (e n m : Int) : rdR r e n m <:+ r := by unfold rdR; split <;> first | exact List.drop_suffix _ _ | exact List.suffix_refl _
theorem rdYR_suf (r : List UInt8) (e m : Int) : rdYR r e m <:+ r := by unfold rdYR; split <;> first | exact (List.drop_suffix _ _).trans (List.drop_suffix _ _) | exact List.suffix_refl _
theorem sufR {e n m : Int} (h : r <:+ B) : rdR r e n m <:+ B := (rdR_suf _ _ _ _).trans h
theorem sufY {e m : Int} (h : r <:+ B) : rdYR r e m <:+ B := (rdYR_suf _ _ _).trans h
theorem pos_of {a : Nat} (ha : a ≤ B.length) (h : B.drop a = r) : a = posB B r := by
  subst h
  unfold posB
  rw [List.length_drop]
  omega
theorem pos_R {e n m : Int} (h : r <:+ B) : rfA B (posB B r) e n m = posB B (rdR r e n m) := pos_of (rfA_le (pos_le _ _)) (by rw [rfA_drop, drop_pos h])
theorem pos_Y {e m : Int} (h : r <:+ B) : rfYA B (posB B r) e m = posB B (rdYR r e m) := pos_of (rfYA_le (pos_le _ _)) (by rw [rfYA_drop, drop_pos h])
end
end Go.Proofs.YtalapplihdmenaaGreat.Q
namespace Go.Proofs.YtalapplihdmenaaGreat.Q
open Go Go.RowKit
set_option linter.unusedVariables false
set_option linter.unusedSimpArgs false
set_option maxRecDepth 100000
set_option maxHeartbeats 4000000
theorem ref01_sInt (B : List UInt8) (r : List UInt8) (e : Int) (hs : r <:+ B) (hB : B.length ≤ 140737488350000) : Holds Tryz.prog 123 ⟨[pv 0 0], [.box 170 [dU B, dI ((posB B r : Nat) : Int), dI e]], vI (rdI r e), [.live (.box 170 [dU B, dI ((posB B (rdR r e 8 0) : Nat) : Int), dI (rdE r e 8 0)])]⟩ := by
  have h := ref01_rInt B (posB B r) e (pos_le B r) hB
  simp only [drop_pos hs, pos_R hs, pos_Y hs] at h
  exact h
theorem ref01_sCount (B : List UInt8) (r : List UInt8) (e : Int) (most : Int) (hs : r <:+ B) (hB : B.length ≤ 140737488350000) : Holds Tryz.prog 134 ⟨[pv 0 0, vI most], [.box 170 [dU B, dI ((posB B r : Nat) : Int), dI e]], vI ((rdC r e most : Nat) : Int), [.live (.box 170 [dU B, dI ((posB B (rdR r e 4 (limE most (r.take 4))) : Nat) : Int), dI (rdE r e 4 (limE most (r.take 4)))])]⟩ := by
  have h := ref01_rCount B (posB B r) e most (pos_le B r) hB
  simp only [drop_pos hs, pos_R hs, pos_Y hs] at h
  exact h
theorem ref01_sEnd (B : List UInt8) (r : List UInt8) (e : Int) (hs : r <:+ B) (hB : B.length ≤ 140737488350000) : Holds Tryz.prog 125 ⟨[pv 0 0], [.box 170 [dU B, dI ((posB B r : Nat) : Int), dI e]], .tup [], [.live (.box 170 [dU B, dI ((posB B r : Nat) : Int), dI (rdX r e)])]⟩ := by
  have h := ref01_rEnd B (posB B r) e (pos_le B r) hB
  simp only [drop_pos hs, pos_R hs, pos_Y hs] at h
  exact h
theorem ref01_sBytes (B : List UInt8) (r : List UInt8) (e : Int) (most : Int) (hs : r <:+ B) (hB : B.length ≤ 140737488350000) : Holds Tryz.prog 132 ⟨[pv 0 0, vI most], [.box 170 [dU B, dI ((posB B r : Nat) : Int), dI e]], ownV 1 kU8 0 (rdY r e most).length, [.live (.box 170 [dU B, dI ((posB B (rdYR r e most) : Nat) : Int), dI (rdYE r e most)]), .live (arrK 5 kU8 (rdY r e most))]⟩ := by
  have h := ref01_rBytes B (posB B r) e most (pos_le B r) hB
  simp only [drop_pos hs, pos_R hs, pos_Y hs] at h
  exact h
end Go.Proofs.YtalapplihdmenaaGreat.Q
namespace Go.Proofs.YtalapplihdmenaaGreat.Q
set_option linter.unusedVariables false
set_option linter.unusedSimpArgs false
set_option maxRecDepth 100000
structure RdL where
  rest : List UInt8
  e : Int
  l : List aE
structure RdC where
  rest : List UInt8
  e : Int
  l : List aC
structure RdM where
  rest : List UInt8
  e : Int
  m : aM
section
variable (M N : Int) (r : List UInt8) (e : Int)
def evR : List UInt8 := rdYR (rdR r e 8 0) (rdE r e 8 0) M
def evE : Int := rdYE (rdR r e 8 0) (rdE r e 8 0) M
def evV : aE := ⟨rdI r e, rdY (rdR r e 8 0) (rdE r e 8 0) M⟩
def stepL (s : RdL) : RdL := ⟨evR M s.rest s.e, evE M s.rest s.e, s.l ++ [evV M s.rest s.e]⟩
def runL : Nat → RdL
  | 0 => ⟨rdR r e 4 (limE 15 (r.take 4)), rdE r e 4 (limE 15 (r.take 4)), []⟩
  | k + 1 => stepL M (runL k)
def finL : RdL := runL M r e (rdC r e 15)
def stepC (s : RdC) : RdC := ⟨(finL M (evR M s.rest s.e) (evE M s.rest s.e)).rest, (finL M (evR M s.rest s.e) (evE M s.rest s.e)).e, s.l ++ [⟨evV M s.rest s.e, (finL M (evR M s.rest s.e) (evE M s.rest s.e)).l⟩]⟩
def runC : Nat → RdC
  | 0 => ⟨rdR r e 4 (limE 8 (r.take 4)), rdE r e 4 (limE 8 (r.take 4)), []⟩
  | k + 1 => stepC M (runC k)
def finC : RdC := runC M r e (rdC r e 8)
def mk0 (k : Int) : aM := ⟨k, 0, 0, 0, 0, [], [], ⟨0, 0⟩, [], [], []⟩
def stepM (s : RdM) : Nat → RdM
  | 0 => ⟨rdR s.rest s.e 8 0, rdE s.rest s.e 8 0, ⟨s.m.f_Kind, rdI s.rest s.e, s.m.f_Seq, s.m.f_Client, s.m.f_Stamp, s.m.f_Digest, s.m.f_Data, s.m.f_Result, s.m.f_Batch, s.m.f_Pres, s.m.f_Certs⟩⟩
  | 1 => ⟨rdR s.rest s.e 8 0, rdE s.rest s.e 8 0, ⟨s.m.f_Kind, s.m.f_View, rdI s.rest s.e, s.m.f_Client, s.m.f_Stamp, s.m.f_Digest, s.m.f_Data, s.m.f_Result, s.m.f_Batch, s.m.f_Pres, s.m.f_Certs⟩⟩
  | 2 => ⟨rdR (rdR s.rest s.e 8 0) (rdE s.rest s.e 8 0) 8 0, rdE (rdR s.rest s.e 8 0) (rdE s.rest s.e 8 0) 8 0, ⟨s.m.f_Kind, s.m.f_View, s.m.f_Seq, rdI s.rest s.e, rdI (rdR s.rest s.e 8 0) (rdE s.rest s.e 8 0), s.m.f_Digest, s.m.f_Data, s.m.f_Result, s.m.f_Batch, s.m.f_Pres, s.m.f_Certs⟩⟩
  | 3 => ⟨rdYR s.rest s.e M, rdYE s.rest s.e M, ⟨s.m.f_Kind, s.m.f_View, s.m.f_Seq, s.m.f_Client, s.m.f_Stamp, rdY s.rest s.e M, s.m.f_Data, s.m.f_Result, s.m.f_Batch, s.m.f_Pres, s.m.f_Certs⟩⟩
  | 4 => ⟨rdYR s.rest s.e M, rdYE s.rest s.e M, ⟨s.m.f_Kind, s.m.f_View, s.m.f_Seq, s.m.f_Client, s.m.f_Stamp, s.m.f_Digest, rdY s.rest s.e M, s.m.f_Result, s.m.f_Batch, s.m.f_Pres, s.m.f_Certs⟩⟩
  | 5 => ⟨rdR (rdR s.rest s.e 8 0) (rdE s.rest s.e 8 0) 8 0, rdE (rdR s.rest s.e 8 0) (rdE s.rest s.e 8 0) 8 0, ⟨s.m.f_Kind, s.m.f_View, s.m.f_Seq, s.m.f_Client, s.m.f_Stamp, s.m.f_Digest, s.m.f_Data, ⟨rdI s.rest s.e, rdI (rdR s.rest s.e 8 0) (rdE s.rest s.e 8 0)⟩, s.m.f_Batch, s.m.f_Pres, s.m.f_Certs⟩⟩
  | 6 => ⟨(finL N s.rest s.e).rest, (finL N s.rest s.e).e, ⟨s.m.f_Kind, s.m.f_View, s.m.f_Seq, s.m.f_Client, s.m.f_Stamp, s.m.f_Digest, s.m.f_Data, s.m.f_Result, (finL N s.rest s.e).l, s.m.f_Pres, s.m.f_Certs⟩⟩
  | 7 => ⟨(finL N s.rest s.e).rest, (finL N s.rest s.e).e, ⟨s.m.f_Kind, s.m.f_View, s.m.f_Seq, s.m.f_Client, s.m.f_Stamp, s.m.f_Digest, s.m.f_Data, s.m.f_Result, s.m.f_Batch, (finL N s.rest s.e).l, s.m.f_Certs⟩⟩
  | 8 => ⟨(finC N s.rest s.e).rest, (finC N s.rest s.e).e, ⟨s.m.f_Kind, s.m.f_View, s.m.f_Seq, s.m.f_Client, s.m.f_Stamp, s.m.f_Digest, s.m.f_Data, s.m.f_Result, s.m.f_Batch, s.m.f_Pres, (finC N s.rest s.e).l⟩⟩
  | _ => s
def runM (k : Int) : Nat → RdM
  | 0 => ⟨r, e, mk0 k⟩
  | j + 1 => if bitH (hasM k) j = true then stepM M N (runM k j) j else runM k j
end
def finM (M N : Int) (b : List UInt8) : RdM := runM M N (rdR b 0 8 0) (rdE b 0 8 0) (rdI b 0) 9
def okD (M N : Int) (b : List UInt8) : Prop := b.length ≤ 16777216 ∧ okK (rdI b 0) ∧ rdX (finM M N b).rest (finM M N b).e = 0 ∧ wellM (finM M N b).m
instance (M N : Int) (b : List UInt8) : Decidable (okD M N b) := by unfold okD; infer_instance
def decW (M N : Int) (b : List UInt8) : aM := if okD M N b then (finM M N b).m else zM
def decX (M N : Int) (b : List UInt8) : Int := if b.length > 16777216 then 11 else if okD M N b then 0 else 12
def decV (b : List UInt8) : aM := decW ((b.length : Nat) : Int) 16777216 b
def decE (b : List UInt8) : Int := decX ((b.length : Nat) : Int) 16777216 b
section
variable {M N : Int} {r B : List UInt8} {e : Int}
theorem evR_len (M : Int) (r : List UInt8) (e : Int) : (evR M r e).length ≤ r.length := Nat.le_trans (rdYR_len _ _ _) (rdR_len _ _ _ _)
theorem runL_len (M : Int) (r : List UInt8) (e : Int) : ∀ k, (runL M r e k).rest.length ≤ r.length ∧ (runL M r e k).l.length = k
  | 0 => ⟨rdR_len _ _ _ _, rfl⟩
  | k + 1 => by
    obtain ⟨h1, h2⟩ := runL_len M r e k
    refine ⟨Nat.le_trans (evR_len _ _ _) h1, ?_⟩
    show ((runL M r e k).l ++ [_]).length = _
    rw [List.length_append, List.length_singleton, h2]
theorem rdC_max (r : List UInt8) (e : Int) (n : Nat) : rdC r e ((n : Nat) : Int) ≤ n := by
  unfold rdC
  split
  · rename_i h
    have h3 := h.2.2
    unfold limE at h3
    split at h3
    · cases h3
    · omega
  · exact Nat.zero_le _
theorem finL_len (M : Int) (r : List UInt8) (e : Int) : (finL M r e).rest.length ≤ r.length ∧ (finL M r e).l.length ≤ 15 := ⟨(runL_len _ _ _ _).1, by rw [finL, (runL_len _ _ _ _).2]; exact rdC_max r e 15⟩
theorem runC_len (M : Int) (r : List UInt8) (e : Int) : ∀ k, (runC M r e k).rest.length ≤ r.length ∧ (runC M r e k).l.length = k
  | 0 => ⟨rdR_len _ _ _ _, rfl⟩
  | k + 1 => by
    obtain ⟨h1, h2⟩ := runC_len M r e k
    refine ⟨Nat.le_trans (finL_len _ _ _).1 (Nat.le_trans (evR_len _ _ _) h1), ?_⟩
    show ((runC M r e k).l ++ [_]).length = _
    rw [List.length_append, List.length_singleton, h2]
theorem finC_len (M : Int) (r : List UInt8) (e : Int) : (finC M r e).rest.length ≤ r.length ∧ (finC M r e).l.length ≤ 8 := ⟨(runC_len _ _ _ _).1, by rw [finC, (runC_len _ _ _ _).2]; exact rdC_max r e 8⟩
theorem sufE (h : r <:+ B) : evR M r e <:+ B := sufY (sufR h)
theorem sufL (h : r <:+ B) : ∀ k, (runL M r e k).rest <:+ B
  | 0 => sufR h
  | k + 1 => sufE (sufL h k)
theorem sufF (h : r <:+ B) : (finL M r e).rest <:+ B := sufL h _
theorem sufC (h : r <:+ B) : ∀ k, (runC M r e k).rest <:+ B
  | 0 => sufR h
  | k + 1 => sufF (sufE (sufC h k))
theorem sufG (h : r <:+ B) : (finC M r e).rest <:+ B := sufC h _
theorem run_yes {k : Int} {j i : Nat} (h : j = i) (hb : bitH (hasM k) j = true) : runM M N r e k (j + 1) = stepM M N (runM M N r e k j) i := by subst h; rw [runM, if_pos hb]
theorem run_no {k : Int} {j : Nat} (hb : ¬ bitH (hasM k) j = true) : runM M N r e k (j + 1) = runM M N r e k j := by rw [runM, if_neg hb]
theorem stepM_len (s : RdM) (j : Nat) : (stepM M N s j).rest.length ≤ s.rest.length := by
  rcases (by omega : j = 0 ∨ j = 1 ∨ j = 2 ∨ j = 3 ∨ j = 4 ∨ j = 5 ∨ j = 6 ∨ j = 7 ∨ j = 8 ∨ 9 ≤ j) with h | h | h | h | h | h | h | h | h | h
  · subst h; exact rdR_len _ _ _ _
  · subst h; exact rdR_len _ _ _ _
  · subst h; exact Nat.le_trans (rdR_len _ _ _ _) (rdR_len _ _ _ _)
  · subst h; exact rdYR_len _ _ _
  · subst h; exact rdYR_len _ _ _
  · subst h; exact Nat.le_trans (rdR_len _ _ _ _) (rdR_len _ _ _ _)
  · subst h; exact (finL_len _ _ _).1
  · subst h; exact (finL_len _ _ _).1
  · subst h; exact (finC_len _ _ _).1
  · obtain ⟨i, rfl⟩ : ∃ i, j = i + 9 := ⟨j - 9, by omega⟩
    exact Nat.le_refl _
theorem runM_len (M N : Int) (r : List UInt8) (e k : Int) : ∀ j, (runM M N r e k j).rest.length ≤ r.length
  | 0 => Nat.le_refl _
  | j + 1 => by
    rw [runM]
    split
    · exact Nat.le_trans (stepM_len _ _) (runM_len M N r e k j)
    · exact runM_len M N r e k j
theorem stepM_suf {s : RdM} (h : s.rest <:+ B) (j : Nat) : (stepM M N s j).rest <:+ B := by
  rcases (by omega : j = 0 ∨ j = 1 ∨ j = 2 ∨ j = 3 ∨ j = 4 ∨ j = 5 ∨ j = 6 ∨ j = 7 ∨ j = 8 ∨ 9 ≤ j) with q | q | q | q | q | q | q | q | q | q
  · subst q; exact sufR h
  · subst q; exact sufR h
  · subst q; exact sufR (sufR h)
  · subst q; exact sufY h
  · subst q; exact sufY h
  · subst q; exact sufR (sufR h)
  · subst q; exact sufF h
  · subst q; exact sufF h
  · subst q; exact sufG h
  · obtain ⟨i, rfl⟩ : ∃ i, j = i + 9 := ⟨j - 9, by omega⟩
    exact h
theorem sufM (M N : Int) (e k : Int) (h : r <:+ B) : ∀ j, (runM M N r e k j).rest <:+ B
  | 0 => h
  | j + 1 => by
    rw [runM]
    split
    · exact stepM_suf (sufM M N e k h j) j
    · exact sufM M N e k h j
def fitM (n : Nat) (m : aM) : Prop := m.f_Batch.length ≤ 15 ∧ m.f_Pres.length ≤ 15 ∧ m.f_Certs.length ≤ 8 ∧ m.f_Data.length ≤ n ∧ m.f_Digest.length ≤ n
theorem stepM_fit {n : Nat} {s : RdM} (h : fitM n s.m) (hl : s.rest.length ≤ n) (j : Nat) : fitM n (stepM M N s j).m := by
  obtain ⟨h1, h2, h3, h4, h5⟩ := h
  rcases (by omega : j = 0 ∨ j = 1 ∨ j = 2 ∨ j = 3 ∨ j = 4 ∨ j = 5 ∨ j = 6 ∨ j = 7 ∨ j = 8 ∨ 9 ≤ j) with h | h | h | h | h | h | h | h | h | h
  · subst h; exact ⟨h1, h2, h3, h4, h5⟩
  · subst h; exact ⟨h1, h2, h3, h4, h5⟩
  · subst h; exact ⟨h1, h2, h3, h4, h5⟩
  · subst h; exact ⟨h1, h2, h3, h4, Nat.le_trans (rdY_len _ _ _) hl⟩
  · subst h; exact ⟨h1, h2, h3, Nat.le_trans (rdY_len _ _ _) hl, h5⟩
  · subst h; exact ⟨h1, h2, h3, h4, h5⟩
  · subst h; exact ⟨(finL_len _ _ _).2, h2, h3, h4, h5⟩
  · subst h; exact ⟨h1, (finL_len _ _ _).2, h3, h4, h5⟩
  · subst h; exact ⟨h1, h2, (finC_len _ _ _).2, h4, h5⟩
  · obtain ⟨i, rfl⟩ : ∃ i, j = i + 9 := ⟨j - 9, by omega⟩
    exact ⟨h1, h2, h3, h4, h5⟩
theorem runM_fit (M N : Int) (r : List UInt8) (e k : Int) : ∀ j, fitM r.length (runM M N r e k j).m
  | 0 => ⟨Nat.zero_le _, Nat.zero_le _, Nat.zero_le _, Nat.zero_le _, Nat.zero_le _⟩
  | j + 1 => by
    rw [runM]
    split
    · exact stepM_fit (runM_fit M N r e k j) (runM_len _ _ _ _ _ _) j
    · exact runM_fit M N r e k j
end
theorem dec_no {M N : Int} {b : List UInt8} (h : ¬ okD M N b) (hl : ¬ b.length > 16777216) : decW M N b = zM ∧ decX M N b = 12 := ⟨if_neg h, by rw [decX, if_neg hl, if_neg h]⟩
theorem dec_yes {M N : Int} {b : List UInt8} (h : okD M N b) : decW M N b = (finM M N b).m ∧ decX M N b = 0 := ⟨if_pos h, by rw [decX, if_neg (by have := h.1; omega), if_pos h]⟩
theorem dec_long {M N : Int} {b : List UInt8} (h : b.length > 16777216) : decW M N b = zM ∧ decX M N b = 11 := ⟨if_neg (fun q => by have := q.1; omega), if_pos h⟩
end Go.Proofs.YtalapplihdmenaaGreat.Q
namespace Go.Proofs.YtalapplihdmenaaGreat.Q
set_option linter.unusedVariables false
set_option linter.unusedSimpArgs false
set_option maxRecDepth 100000
section
variable {M M' : Int} {r : List UInt8} {e : Int}
theorem rdE_sticky {n m : Int} (h : rdE r e n m = 0) : e = 0 := (okT_of h).1
theorem rdYE_sticky (h : rdYE r e M = 0) : e = 0 := (rdYE_ok.1 h).1.1
theorem ev_any (hM : ((r.length : Nat) : Int) ≤ M) (hM' : ((r.length : Nat) : Int) ≤ M') (h : evE M r e = 0) : e = 0 ∧ evE M' r e = 0 ∧ evR M' r e = evR M r e ∧ evV M' r e = evV M r e := by
  have hl := rdR_len r e 8 0
  obtain ⟨a1, a2, a3⟩ := rdY_any (M' := M') (show (((rdR r e 8 0).length : Nat) : Int) ≤ M by omega) (by omega) h
  exact ⟨rdE_sticky (rdYE_sticky h), a1, a3, by unfold evV; rw [a2]⟩
theorem runL_any (hM : ((r.length : Nat) : Int) ≤ M) (hM' : ((r.length : Nat) : Int) ≤ M') : ∀ k, (runL M r e k).e = 0 → e = 0 ∧ runL M' r e k = runL M r e k
  | 0, h => ⟨rdE_sticky h, rfl⟩
  | k + 1, h => by
    have hl := (runL_len M r e k).1
    obtain ⟨a1, a2, a3, a4⟩ := ev_any (M' := M') (show (((runL M r e k).rest.length : Nat) : Int) ≤ M by omega) (by omega) h
    obtain ⟨b1, b2⟩ := runL_any hM hM' k a1
    refine ⟨b1, ?_⟩
    show stepL M' (runL M' r e k) = stepL M (runL M r e k)
    rw [b2]
    unfold stepL
    rw [a2, a3, a4, show evE M (runL M r e k).rest (runL M r e k).e = 0 from h]
theorem finL_any (hM : ((r.length : Nat) : Int) ≤ M) (hM' : ((r.length : Nat) : Int) ≤ M') (h : (finL M r e).e = 0) : e = 0 ∧ finL M' r e = finL M r e := runL_any hM hM' _ h
theorem runC_any (hM : ((r.length : Nat) : Int) ≤ M) (hM' : ((r.length : Nat) : Int) ≤ M') : ∀ k, (runC M r e k).e = 0 → e = 0 ∧ runC M' r e k = runC M r e k
  | 0, h => ⟨rdE_sticky h, rfl⟩
  | k + 1, h => by
    have hl := (runC_len M r e k).1
    have hl2 := evR_len M (runC M r e k).rest (runC M r e k).e
    obtain ⟨c1, c2⟩ := finL_any (M' := M') (show (((evR M (runC M r e k).rest (runC M r e k).e).length : Nat) : Int) ≤ M by omega) (by omega) h
    obtain ⟨a1, a2, a3, a4⟩ := ev_any (M' := M') (show (((runC M r e k).rest.length : Nat) : Int) ≤ M by omega) (by omega) c1
    obtain ⟨b1, b2⟩ := runC_any hM hM' k a1
    refine ⟨b1, ?_⟩
    show stepC M' (runC M' r e k) = stepC M (runC M r e k)
    rw [b2]
    unfold stepC
    rw [a2, a3, a4, ← c1, c2]
theorem finC_any (hM : ((r.length : Nat) : Int) ≤ M) (hM' : ((r.length : Nat) : Int) ≤ M') (h : (finC M r e).e = 0) : e = 0 ∧ finC M' r e = finC M r e := runC_any hM hM' _ h
theorem stepM_any {N N' : Int} {s : RdM} (hM : ((s.rest.length : Nat) : Int) ≤ M) (hM' : ((s.rest.length : Nat) : Int) ≤ M') (hN : ((s.rest.length : Nat) : Int) ≤ N) (hN' : ((s.rest.length : Nat) : Int) ≤ N') (j : Nat) (h : (stepM M N s j).e = 0) : s.e = 0 ∧ stepM M' N' s j = stepM M N s j := by
  rcases (by omega : j = 0 ∨ j = 1 ∨ j = 2 ∨ j = 3 ∨ j = 4 ∨ j = 5 ∨ j = 6 ∨ j = 7 ∨ j = 8 ∨ 9 ≤ j) with q | q | q | q | q | q | q | q | q | q
  · subst q; exact ⟨rdE_sticky h, rfl⟩
  · subst q; exact ⟨rdE_sticky h, rfl⟩
  · subst q; exact ⟨rdE_sticky (rdE_sticky h), rfl⟩
  · subst q
    obtain ⟨a1, a2, a3⟩ := rdY_any (M' := M') hM hM' h
    refine ⟨rdYE_sticky h, ?_⟩
    simp only [stepM]
    rw [a1, a2, a3, show rdYE s.rest s.e M = 0 from h]
  · subst q
    obtain ⟨a1, a2, a3⟩ := rdY_any (M' := M') hM hM' h
    refine ⟨rdYE_sticky h, ?_⟩
    simp only [stepM]
    rw [a1, a2, a3, show rdYE s.rest s.e M = 0 from h]
  · subst q; exact ⟨rdE_sticky (rdE_sticky h), rfl⟩
  · subst q
    obtain ⟨a1, a2⟩ := finL_any hN hN' h
    exact ⟨a1, by simp only [stepM]; rw [a2]⟩
  · subst q
    obtain ⟨a1, a2⟩ := finL_any hN hN' h
    exact ⟨a1, by simp only [stepM]; rw [a2]⟩
  · subst q
    obtain ⟨a1, a2⟩ := finC_any hN hN' h
    exact ⟨a1, by simp only [stepM]; rw [a2]⟩
  · obtain ⟨i, rfl⟩ : ∃ i, j = i + 9 := ⟨j - 9, by omega⟩
    exact ⟨h, rfl⟩
theorem runM_any {N N' : Int} {k : Int} (hM : ((r.length : Nat) : Int) ≤ M) (hM' : ((r.length : Nat) : Int) ≤ M') (hN : ((r.length : Nat) : Int) ≤ N) (hN' : ((r.length : Nat) : Int) ≤ N') : ∀ j, (runM M N r e k j).e = 0 → runM M' N' r e k j = runM M N r e k j
  | 0, _ => rfl
  | j + 1, h => by
    have hl := runM_len M N r e k j
    rw [runM] at h ⊢
    rw [runM]
    split
    · rename_i hb
      rw [if_pos hb] at h
      obtain ⟨a1, a2⟩ := stepM_any (M' := M') (N' := N') (by omega) (by omega) (by omega) (by omega) j h
      rw [runM_any hM hM' hN hN' j a1, a2]
    · rename_i hb
      rw [if_neg hb] at h
      exact runM_any hM hM' hN hN' j h
end
theorem okD_any {M N M' N' : Int} {b : List UInt8} (hM : ((b.length : Nat) : Int) ≤ M) (hM' : ((b.length : Nat) : Int) ≤ M') (hN : ((b.length : Nat) : Int) ≤ N) (hN' : ((b.length : Nat) : Int) ≤ N') (h : okD M N b) : finM M' N' b = finM M N b ∧ okD M' N' b := by
  have hl := rdR_len b 0 8 0
  have e := runM_any (r := rdR b 0 8 0) (e := rdE b 0 8 0) (k := rdI b 0) (M := M) (M' := M') (N := N) (N' := N') (by omega) (by omega) (by omega) (by omega) 9 (rdX_ok h.2.2.1).1
  have e' : finM M' N' b = finM M N b := e
  exact ⟨e', h.1, h.2.1, by rw [e']; exact h.2.2.1, by rw [e']; exact h.2.2.2⟩
theorem dec_any_yes {b : List UInt8} (h : okD 1099511627776 1099511627776 b) : decV b = (finM 1099511627776 1099511627776 b).m ∧ decE b = 0 := by
  have hl := h.1
  obtain ⟨e, h2⟩ := okD_any (M' := ((b.length : Nat) : Int)) (N' := 16777216) (by omega) (by omega) (by omega) (by omega) h
  rw [← e]
  exact dec_yes h2
theorem dec_any_no {b : List UInt8} (h : ¬ okD 1099511627776 1099511627776 b) (hb : ¬ b.length > 16777216) : decV b = zM ∧ decE b = 12 :=
  dec_no (fun q => h (okD_any (by omega) (by omega) (by omega) (by omega) q).2) hb
end Go.Proofs.YtalapplihdmenaaGreat.Q
namespace Go.Proofs.YtalapplihdmenaaGreat.Q
set_option linter.unusedVariables false
theorem run_nocert {M N : Int} {r : List UInt8} {e k : Int} : ∀ j, j ≤ 8 → (runM M N r e k j).m.f_Certs = []
  | 0, _ => rfl
  | j + 1, hj => by
    have ih := run_nocert (M := M) (N := N) (r := r) (e := e) (k := k) j (by omega)
    rw [runM]
    split
    · rcases (by omega : j = 0 ∨ j = 1 ∨ j = 2 ∨ j = 3 ∨ j = 4 ∨ j = 5 ∨ j = 6 ∨ j = 7) with q | q | q | q | q | q | q | q <;> subst q <;> exact ih
    · exact ih
end Go.Proofs.YtalapplihdmenaaGreat.Q
namespace Go.Proofs.YtalapplihdmenaaGreat.Q
open Go Go.RowKit
set_option linter.unusedVariables false
set_option linter.unusedSimpArgs false
set_option maxRecDepth 100000
set_option maxHeartbeats 4000000
theorem src_number (rest : List UInt8) (e : Int) (hr : rest.length ≤ 100000000) : Holds Tryz.prog 92 ⟨[.tv (.agg [.ptr 0 0])], [.box 160 [dU rest, dI e]], vI (rdI rest e), [.live (.box 160 [dU (rdR rest e 8 0), dI (rdE rest e 8 0)])]⟩ := by
 refine Holds.of Tryz.func92 rfl (N := 6) Tryz.ntmps92 rfl fun w0 B0 S0 U0 => ?_
 show T _ (mkBase 6 1 w0 S0 U0 B0) ⟨[.tv (.agg [.ptr 0 0])], [.live (.box 160 [dU rest, dI e])]⟩ _ _
 refine sR [] ?_
 refine sR [hR 2 rfl rfl (rCa (rd_Int rest e (by omega)) Tryz.func112 [0] [(.tmp 4, pv 0 0)] 1 1)] ?_
 refine T.ret ?_
 exact eRt 2 (.one (dI (rdI rest e))) [0] rfl (ix trivial)
section
variable (rest : List UInt8) (e : Int)
abbrev Z4h : List AV := [.tv (.agg [.ptr 0 0]), pv 1 0, pv 2 0, pv 3 0]
abbrev Z4i : HS := .live (.box 160 [dU (rdYR (rdR rest e 8 0) (rdE rest e 8 0) 16777216), dI (rdYE (rdR rest e 8 0) (rdE rest e 8 0) 16777216)])
abbrev Z4j : St := ⟨Z4h, [(Z4i rest e), .live (.box 142 [.ptr 0 0]), .live (.box 35 [dI 0, .d (.val (.slice none 0 0))]), .live (.box 35 [dI (rdI rest e), .own 4 kU8.sz 0 (rdY (rdR rest e 8 0) (rdE rest e 8 0) 16777216).length]), .live (arrK 5 kU8 (rdY (rdR rest e 8 0) (rdE rest e 8 0) 16777216))]⟩
abbrev Z4k : SV := dU (rdY (rdR rest e 8 0) (rdE rest e 8 0) 16777216)
end
theorem src_envelope (rest : List UInt8) (e : Int) (hr : rest.length ≤ 100000000) : Holds Tryz.prog 116 ⟨[.tv (.agg [.ptr 0 0])], [.box 160 [dU rest, dI e]], .tv (.agg [dI (evV 16777216 rest e).f_Signer, dU (evV 16777216 rest e).f_Body]), [.live (.box 160 [dU (evR 16777216 rest e), dI (evE 16777216 rest e)])]⟩ := by
 refine Holds.of Tryz.func116 rfl (N := 12) Tryz.ntmps116 rfl fun w0 B0 S0 U0 => ?_
 show T _ (mkBase 12 1 w0 S0 U0 B0) ⟨[.tv (.agg [.ptr 0 0])], [.live (.box 160 [dU rest, dI e])]⟩ _ _
 have hr1 := rdR_len rest e 8 0
 have hr2 := rdY_len (rdR rest e 8 0) (rdE rest e 8 0) 16777216
 refine sR [] ?_
 refine sR [hR 1 rfl rfl (rCa (src_number rest e ‹_›) Tryz.func92 [0] [(.tmp 4, .tv (.agg [.ptr 0 0]))] 1 1)] ?_
 refine sR [hR 2 rfl rfl (rCa (rd_Bytes (rdR rest e 8 0) (rdE rest e 8 0) 16777216 (by omega)) Tryz.func94 [0, 4] [(.tmp 8, pv 0 0), (.const (.int .i64 16777216), vI 16777216)] 1 2)] ?_
 refine tN (Z4j rest e) ?_
 refine T.turn (s' := ⟨Z4h, [(Z4i rest e), .live (.box 142 [.ptr 0 0]), .live (.box 35 [dI 0, .d (.val (.slice none 0 0))]), .live (.box 35 [dI (rdI rest e), (Z4k rest e)]), .dead]⟩) (fun _ _ hG => Gs.freeze (s := (Z4j rest e)) 4 (el := elOf kU8 (rdY (rdR rest e 8 0) (rdE rest e 8 0) 16777216)) (sz := kU8.sz) (n := (rdY (rdR rest e 8 0) (rdE rest e 8 0) 16777216).length) rfl (kk4 trivial) ⟨(.inr ⟨by decide, .inl rfl⟩), ⟨(.inr ⟨by decide, .inl rfl⟩), ⟨(.inr ⟨by decide, .inl rfl⟩), ⟨(.inr ⟨by decide, .inr ⟨rfl, ⟨.inl rfl, ⟨(.inr ⟨rfl, rfl, rfl, (fun h => by cases h), rfl, rfl, Nat.le_of_eq (Nat.zero_add _), fun i j _ => by rw [Nat.zero_add]⟩), trivial⟩⟩⟩⟩), ⟨(.inl ⟨rfl, rfl⟩), trivial⟩⟩⟩⟩⟩ hG) ?_
 refine sR [] ?_
 refine T.ret ?_
 exact eX [.c 2 2 35 0 35 [dI (rdI rest e), (Z4k rest e)] (.agg [dI (rdI rest e), (Z4k rest e)])] ⟨⟨rfl, rfl, by kernel_rfl, by kernel_rfl, .inl ⟨2, wide_35, rfl, Nat.le_of_ble_eq_true rfl⟩⟩, trivial⟩ [0] (cg2 (fun (q1 : Int) (q2 : List UInt8) => (.tv (.agg [dI q1, dU q2]) : AV)) (by rfl) (by rfl)) ⟨⟨rfl, (by have e1 : ((rdYR (rdR rest e 8 0) (rdE rest e 8 0) 16777216) : List UInt8) = (evR 16777216 rest e) := (by rfl); have e2 : ((rdYE (rdR rest e 8 0) (rdE rest e 8 0) 16777216) : Int) = (evE 16777216 rest e) := (by rfl); have hE := congr (congrArg (fun (q1 : List UInt8) (q2 : Int) => (.live (.box 160 [dU q1, dI q2]) : HS)) e1) e2; exact Eq.trans (by kernel_rfl) hE)⟩, trivial⟩
section
variable (rest : List UInt8) (e : Int) (k : Nat)
abbrev Z4l : AV := vI ((rdC rest e 15 : Nat) : Int)
abbrev Z4m : HS := .live (.box 160 [dU (rdR rest e 4 (limE 15 (rest.take 4))), dI (rdE rest e 4 (limE 15 (rest.take 4)))])
abbrev Z4n : HS := .live (.box 142 [.ptr 0 0])
abbrev Z4o := (runL 16777216 rest e k)
abbrev Z4p : List HS := [.live (.box 160 [dU (Z4o rest e k).rest, dI (Z4o rest e k).e]), Z4n, .live (arrK 35 (kE false) (Z4o rest e k).l)]
abbrev Z4q : St := ⟨[aa, pv 1 0, ownV 2 (kE false) 0 (Z4o rest e k).l.length, aa, aa, (Z4l rest e), vI ((k : Nat) : Int)], (Z4p rest e k)⟩
abbrev Z4t := (evV 16777216 (Z4o rest e k).rest (Z4o rest e k).e)
abbrev Z4u : AV := vI ((k + 1 : Nat) : Int)
abbrev Z4v : List HS := [.live (.box 160 [dU (runL 16777216 rest e (k + 1)).rest, dI (runL 16777216 rest e (k + 1)).e]), Z4n, .live (arrK 35 (kE false) (runL 16777216 rest e (k + 1)).l)]
abbrev Z4w : St := ⟨[aa, pv 1 0, ownV 2 (kE false) 0 (Z4o rest e k).l.length, aa, aa, (Z4l rest e), vI ((k : Nat) : Int), vB (decide (((k : Nat) : Int) < ((rdC rest e 15 : Nat) : Int)))], (Z4p rest e k)⟩
end
theorem src_list (rest : List UInt8) (e : Int) (hr : rest.length ≤ 100000000) : Holds Tryz.prog 95 ⟨[.tv (.agg [.ptr 0 0])], [.box 160 [dU rest, dI e]], slV false false (kE false) (finL 16777216 rest e).l, [.live (.box 160 [dU (finL 16777216 rest e).rest, dI (finL 16777216 rest e).e])]⟩ := by
 refine Holds.of Tryz.func95 rfl (N := 15) Tryz.ntmps95 rfl fun w0 B0 S0 U0 => ?_
 show T _ (mkBase 15 1 w0 S0 U0 B0) ⟨[.tv (.agg [.ptr 0 0])], [.live (.box 160 [dU rest, dI e])]⟩ _ _
 have hr1 := rdR_len rest e 4 (limE 15 (rest.take 4))
 refine sR [] ?_
 refine T.seq ?_
 refine sR [hR 2 rfl rfl (rCa (rd_Count rest e 15 (by omega)) Tryz.func113 [0] [(.tmp 4, pv 0 0), (.const (.int .i64 15), vI 15)] 1 1)] ?_
 refine T.block ?_
 refine tN ⟨[.tv (.agg [.ptr 0 0]), pv 1 0, dv (.slice none 0 0), aa, aa, (Z4l rest e), vI 0], [(Z4m rest e), Z4n]⟩ ?_
 refine T.turn (s' := ⟨[.tv (.agg [.ptr 0 0]), pv 1 0, ownV 2 (kE false) 0 0, aa, aa, (Z4l rest e), vI 0], [(Z4m rest e), Z4n, .live (arrK 35 (kE false) ([] : List aE))]⟩) (fun _ _ hG => Gs.absent 2 2 35 (kE false) rfl rfl hG) ?_
 refine T.loop (ι := Nat) (fun (k : Nat) => (Z4q rest e k)) (fun (k : Nat) => (k ≤ rdC rest e 15)) (fun (k : Nat) => rdC rest e 15 - k) (0) (Nat.zero_le _) (fun _ _ hG => Gs.iI [0, 1, 2] (bm 7 102) (t2 := [aa, pv 1 0, ownV 2 (kE false) 0 0, aa, aa, (Z4l rest e), vI 0]) (h2 := [(Z4m rest e), Z4n, .live (arrK 35 (kE false) ([] : List aE))]) (congrArg (fun (q1 : Nat) => ([aa, pv 1 0, ownV 2 (kE false) 0 q1, aa, aa, (Z4l rest e), vI 0] : List AV)) (by rfl)) (cg3 (fun (q1 : List UInt8) (q2 : Int) (q3 : List aE) => ([.live (.box 160 [dU q1, dI q2]), Z4n, .live (arrK 35 (kE false) q3)] : List HS)) (by rfl) (by rfl) (by rfl)) hG) ?_
 rintro k hk
 show T _ _ (Z4q rest e k) _ _
 replace hk : k ≤ rdC rest e 15 := hk
 have hg := runL_len 16777216 rest e k
 have hg1 := hg.1
 have hg2 := hg.2
 have hcm : rdC rest e 15 ≤ 15 := rdC_max rest e 15
 refine sR [] ?_
 refine T.seq ?_
 by_cases hq1 : ((k : Nat) : Int) < ((rdC rest e 15 : Nat) : Int)
 ·refine cT (dT hq1) ?_
  refine T.skip (nT (T.seq ?_))
  refine T.block ?_
  refine xR [hR 2 rfl rfl (rCa (src_envelope (runL 16777216 rest e k).rest (runL 16777216 rest e k).e (by omega)) Tryz.func116 [0] [(.tmp 9, .tv (.agg [.ptr 0 0]))] 1 1),
    hR 3 rfl rfl (q_buildSlice 3 35 (kE false) (k_api_Envelope_ok false) [(evV 16777216 (runL 16777216 rest e k).rest (runL 16777216 rest e k).e)] [⟨0, .tmp 10, .agg [dI (Z4t rest e k).f_Signer, dU (Z4t rest e k).f_Body], 0⟩] (cs := [dI (Z4t rest e k).f_Signer, dU (Z4t rest e k).f_Body]) Tryz.underlying36 iat_35 rfl zero_35 rfl rfl rfl (Nat.le_of_ble_eq_true rfl) (part_cons rfl rfl (Nat.le_of_ble_eq_true rfl) part_ok) (by kernel_rfl) (wk_eq (by kernel_rfl)) (lt_of rfl) trivial),
    hR 4 rfl rfl (q_appendO 2 4 35 32 (kE false) (k_api_Envelope_ok false) (runL 16777216 rest e k).l [(evV 16777216 (runL 16777216 rest e k).rest (runL 16777216 rest e k).e)] ((runL 16777216 rest e k).l ++ [(evV 16777216 (runL 16777216 rest e k).rest (runL 16777216 rest e k).e)]) (runL 16777216 rest e k).l.length (sy := (.own 3 (kE false).sz 0 [(Z4t rest e k)].length)) (rhs := [(3, .live (arrK 35 (kE false) [(Z4t rest e k)]))]) elem_36 (by omega) (src_own 3 35 (kE false) [(evV 16777216 (runL 16777216 rest e k).rest (runL 16777216 rest e k).e)]) (by rw [List.take_length]) (by (simp [maxLen, -List.getD_eq_getElem?_getD] <;> omega)) (by (simp [maxLen, -List.getD_eq_getElem?_getD] <;> omega)) (lt_of rfl) trivial)] (by kernel_rfl) (by kernel_rfl) ?_
  refine nB ?_
  refine nT ?_
  refine xK [hR 0 rfl rfl (r_bin (u1 := .int .i64 ((k : Nat) : Int)) (u2 := .int .i64 1) (v := .int .i64 ((k + 1 : Nat) : Int)) (b_add (by rw [IntKind.wrap_i64]; omega)) (lt_of rfl) ⟨rfl, trivial⟩)] ?_
  refine nL (k + 1) (show (k + 1) ≤ rdC rest e 15 from (by omega)) (show (rdC rest e 15 - (k + 1) : Nat) < rdC rest e 15 - k from (by omega)) (fun _ _ hG => Gs.i2 [0, 1, 4] (bm 7 102) (t1 := [aa, pv 1 0, ownV 4 (kE false) 0 (runL 16777216 rest e (k + 1)).l.length, aa, aa, (Z4l rest e), (Z4u k)]) (t2 := [aa, pv 1 0, ownV 4 (kE false) 0 ((Z4o rest e k).l ++ [(Z4t rest e k)]).length, aa, aa, (Z4l rest e), (Z4u k)]) (h1 := (Z4v rest e k)) (h2 := [.live (.box 160 [dU (evR 16777216 (Z4o rest e k).rest (Z4o rest e k).e), dI (evE 16777216 (Z4o rest e k).rest (Z4o rest e k).e)]), Z4n, .live (arrK 35 (kE false) ((Z4o rest e k).l ++ [(Z4t rest e k)]))]) (congrArg (fun (q1 : Nat) => ([aa, pv 1 0, ownV 4 (kE false) 0 q1, aa, aa, (Z4l rest e), (Z4u k)] : List AV)) (by rfl)) (cg3 (fun (q1 : List UInt8) (q2 : Int) (q3 : List aE) => ([.live (.box 160 [dU q1, dI q2]), Z4n, .live (arrK 35 (kE false) q3)] : List HS)) (by rfl) (by rfl) (by rfl)) hG)
 refine cF (dF hq1) ?_
 refine T.exit ?_
 refine xT ?_
 refine xT ?_
 refine xH ?_
 refine nT ?_
 refine sR [] ?_
 refine T.ret ?_
 refine eN (Z4w rest e k) ?_
 refine Ends.turn (s' := ⟨[aa, pv 1 0, slV false false (kE false) (Z4o rest e k).l, aa, aa, (Z4l rest e), vI ((k : Nat) : Int), vB (decide (((k : Nat) : Int) < ((rdC rest e 15 : Nat) : Int)))], [.live (.box 160 [dU (Z4o rest e k).rest, dI (Z4o rest e k).e]), Z4n, .dead]⟩) (fun _ _ hG => Gs.freeze (s := (Z4w rest e k)) 2 (el := elOf (kE false) (runL 16777216 rest e k).l) (sz := (kE false).sz) (n := (runL 16777216 rest e k).l.length) rfl (kk2 ⟨(.inr (.inr ⟨rfl, rfl, rfl, (fun h => by cases h), rfl, rfl, Nat.le_of_eq (Nat.zero_add _), fun i j _ => by rw [Nat.zero_add]⟩)), ⟨.inl rfl, (kk4 trivial)⟩⟩) ⟨(.inr ⟨by decide, .inl rfl⟩), ⟨(.inr ⟨by decide, .inl rfl⟩), ⟨(.inl ⟨rfl, rfl⟩), trivial⟩⟩⟩ hG) ?_
 exact eRt 2 (.one (.d (dsl false false (kE false) (Z4o rest e k).l))) [0] (by have e1 : ((finL 16777216 rest e).l : List aE) = (runL 16777216 rest e k).l := (by (rw [finL, show rdC rest e 15 = k by omega]; done)); have hE := congrArg (fun (q1 : List aE) => (slV false false (kE false) q1 : AV)) e1; exact hE) ⟨⟨rfl, (by have e1 : ((runL 16777216 rest e k).rest : List UInt8) = (finL 16777216 rest e).rest := (by (rw [finL, show rdC rest e 15 = k by omega]; done)); have e2 : ((runL 16777216 rest e k).e : Int) = (finL 16777216 rest e).e := (by (rw [finL, show rdC rest e 15 = k by omega]; done)); have hE := congr (congrArg (fun (q1 : List UInt8) (q2 : Int) => (.live (.box 160 [dU q1, dI q2]) : HS)) e1) e2; exact Eq.trans (by kernel_rfl) hE)⟩, trivial⟩
end Go.Proofs.YtalapplihdmenaaGreat.Q
