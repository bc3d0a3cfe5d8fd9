import Derived.Test.YtalapplihdmenaaGreatC13n14
namespace Go.Proofs.YtalapplihdmenaaGreat.Q
set_option linter.unusedVariables false
set_option linter.unusedSimpArgs false
theorem back_intX {n : Int} (hn : i64R n) (r : List UInt8) : rdI (intB n ++ r) 0 = n ∧ rdR (intB n ++ r) 0 8 0 = r ∧ rdE (intB n ++ r) 0 8 0 = 0 := by
  have hk : okT (intB n ++ r) 0 8 0 := okT_app (int_len n)
  refine ⟨?_, ?_, rdE_ok hk⟩
  · rw [rdI, if_pos hk, take_app (int_len n), intB, num_spell (Nat.lt_of_lt_of_le (u64_lt n) (by decide)), toI64_u64 hn]
  · rw [rdR_ok hk]; exact drop_app (int_len n)
theorem rdI_range (r : List UInt8) (e : Int) : i64R (rdI r e) := by
  unfold rdI i64R
  split
  · have := numL_lt8 (l := r.take 8) (List.length_take_le _ _)
    unfold toI64
    split <;> omega
  · omega
end Go.Proofs.YtalapplihdmenaaGreat.Q
namespace Go.Proofs.YtalapplihdmenaaGreat.Q
set_option linter.unusedVariables false
set_option linter.unusedSimpArgs false
end Go.Proofs.YtalapplihdmenaaGreat.Q
namespace Go.Proofs.YtalapplihdmenaaGreat.Q
set_option linter.unusedVariables false
set_option linter.unusedSimpArgs false
section
variable {B r : List UInt8}
end
end Go.Proofs.YtalapplihdmenaaGreat.Q
namespace Go.Proofs.YtalapplihdmenaaGreat.Q
open Go Go.RowKit
set_option linter.unusedVariables false
set_option linter.unusedSimpArgs false
set_option maxRecDepth 100000
set_option maxHeartbeats 4000000
end Go.Proofs.YtalapplihdmenaaGreat.Q
namespace Go.Proofs.YtalapplihdmenaaGreat.Q
set_option linter.unusedVariables false
set_option linter.unusedSimpArgs false
set_option maxRecDepth 100000
structure RdL where
  rest : List UInt8
  e : Int
  l : List aE
structure RdC where
  rest : List UInt8
  e : Int
  l : List aC
structure RdM where
  rest : List UInt8
  e : Int
  m : aM
section
variable (M N : Int) (r : List UInt8) (e : Int)
def evR : List UInt8 := rdYR (rdR r e 8 0) (rdE r e 8 0) M
def evE : Int := rdYE (rdR r e 8 0) (rdE r e 8 0) M
def evV : aE := ⟨rdI r e, rdY (rdR r e 8 0) (rdE r e 8 0) M⟩
def stepL (s : RdL) : RdL := ⟨evR M s.rest s.e, evE M s.rest s.e, s.l ++ [evV M s.rest s.e]⟩
def runL : Nat → RdL
  | 0 => ⟨rdR r e 4 (limE 15 (r.take 4)), rdE r e 4 (limE 15 (r.take 4)), []⟩
  | k + 1 => stepL M (runL k)
def finL : RdL := runL M r e (rdC r e 15)
def stepC (s : RdC) : RdC := ⟨(finL M (evR M s.rest s.e) (evE M s.rest s.e)).rest, (finL M (evR M s.rest s.e) (evE M s.rest s.e)).e, s.l ++ [⟨evV M s.rest s.e, (finL M (evR M s.rest s.e) (evE M s.rest s.e)).l⟩]⟩
def runC : Nat → RdC
  | 0 => ⟨rdR r e 4 (limE 8 (r.take 4)), rdE r e 4 (limE 8 (r.take 4)), []⟩
  | k + 1 => stepC M (runC k)
def finC : RdC := runC M r e (rdC r e 8)
def mk0 (k : Int) : aM := ⟨k, 0, 0, 0, 0, [], [], ⟨0, 0⟩, [], [], []⟩
def stepM (s : RdM) : Nat → RdM
  | 0 => ⟨rdR s.rest s.e 8 0, rdE s.rest s.e 8 0, ⟨s.m.f_Kind, rdI s.rest s.e, s.m.f_Seq, s.m.f_Client, s.m.f_Stamp, s.m.f_Digest, s.m.f_Data, s.m.f_Result, s.m.f_Batch, s.m.f_Pres, s.m.f_Certs⟩⟩
  | 1 => ⟨rdR s.rest s.e 8 0, rdE s.rest s.e 8 0, ⟨s.m.f_Kind, s.m.f_View, rdI s.rest s.e, s.m.f_Client, s.m.f_Stamp, s.m.f_Digest, s.m.f_Data, s.m.f_Result, s.m.f_Batch, s.m.f_Pres, s.m.f_Certs⟩⟩
  | 2 => ⟨rdR (rdR s.rest s.e 8 0) (rdE s.rest s.e 8 0) 8 0, rdE (rdR s.rest s.e 8 0) (rdE s.rest s.e 8 0) 8 0, ⟨s.m.f_Kind, s.m.f_View, s.m.f_Seq, rdI s.rest s.e, rdI (rdR s.rest s.e 8 0) (rdE s.rest s.e 8 0), s.m.f_Digest, s.m.f_Data, s.m.f_Result, s.m.f_Batch, s.m.f_Pres, s.m.f_Certs⟩⟩
  | 3 => ⟨rdYR s.rest s.e M, rdYE s.rest s.e M, ⟨s.m.f_Kind, s.m.f_View, s.m.f_Seq, s.m.f_Client, s.m.f_Stamp, rdY s.rest s.e M, s.m.f_Data, s.m.f_Result, s.m.f_Batch, s.m.f_Pres, s.m.f_Certs⟩⟩
  | 4 => ⟨rdYR s.rest s.e M, rdYE s.rest s.e M, ⟨s.m.f_Kind, s.m.f_View, s.m.f_Seq, s.m.f_Client, s.m.f_Stamp, s.m.f_Digest, rdY s.rest s.e M, s.m.f_Result, s.m.f_Batch, s.m.f_Pres, s.m.f_Certs⟩⟩
  | 5 => ⟨rdR (rdR s.rest s.e 8 0) (rdE s.rest s.e 8 0) 8 0, rdE (rdR s.rest s.e 8 0) (rdE s.rest s.e 8 0) 8 0, ⟨s.m.f_Kind, s.m.f_View, s.m.f_Seq, s.m.f_Client, s.m.f_Stamp, s.m.f_Digest, s.m.f_Data, ⟨rdI s.rest s.e, rdI (rdR s.rest s.e 8 0) (rdE s.rest s.e 8 0)⟩, s.m.f_Batch, s.m.f_Pres, s.m.f_Certs⟩⟩
  | 6 => ⟨(finL N s.rest s.e).rest, (finL N s.rest s.e).e, ⟨s.m.f_Kind, s.m.f_View, s.m.f_Seq, s.m.f_Client, s.m.f_Stamp, s.m.f_Digest, s.m.f_Data, s.m.f_Result, (finL N s.rest s.e).l, s.m.f_Pres, s.m.f_Certs⟩⟩
  | 7 => ⟨(finL N s.rest s.e).rest, (finL N s.rest s.e).e, ⟨s.m.f_Kind, s.m.f_View, s.m.f_Seq, s.m.f_Client, s.m.f_Stamp, s.m.f_Digest, s.m.f_Data, s.m.f_Result, s.m.f_Batch, (finL N s.rest s.e).l, s.m.f_Certs⟩⟩
  | 8 => ⟨(finC N s.rest s.e).rest, (finC N s.rest s.e).e, ⟨s.m.f_Kind, s.m.f_View, s.m.f_Seq, s.m.f_Client, s.m.f_Stamp, s.m.f_Digest, s.m.f_Data, s.m.f_Result, s.m.f_Batch, s.m.f_Pres, (finC N s.rest s.e).l⟩⟩
  | _ => s
def runM (k : Int) : Nat → RdM
  | 0 => ⟨r, e, mk0 k⟩
  | j + 1 => if bitH (hasM k) j = true then stepM M N (runM k j) j else runM k j
end
def finM (M N : Int) (b : List UInt8) : RdM := runM M N (rdR b 0 8 0) (rdE b 0 8 0) (rdI b 0) 9
def okD (M N : Int) (b : List UInt8) : Prop := b.length ≤ 16777216 ∧ okK (rdI b 0) ∧ rdX (finM M N b).rest (finM M N b).e = 0 ∧ wellM (finM M N b).m
instance (M N : Int) (b : List UInt8) : Decidable (okD M N b) := by unfold okD; infer_instance
def decW (M N : Int) (b : List UInt8) : aM := if okD M N b then (finM M N b).m else zM
def decX (M N : Int) (b : List UInt8) : Int := if b.length > 16777216 then 11 else if okD M N b then 0 else 12
def decV (b : List UInt8) : aM := decW ((b.length : Nat) : Int) 16777216 b
def decE (b : List UInt8) : Int := decX ((b.length : Nat) : Int) 16777216 b
section
variable {M N : Int} {r B : List UInt8} {e : Int}
theorem evR_len (M : Int) (r : List UInt8) (e : Int) : (evR M r e).length ≤ r.length := Nat.le_trans (rdYR_len _ _ _) (rdR_len _ _ _ _)
theorem runL_len (M : Int) (r : List UInt8) (e : Int) : ∀ k, (runL M r e k).rest.length ≤ r.length ∧ (runL M r e k).l.length = k
  | 0 => ⟨rdR_len _ _ _ _, rfl⟩
  | k + 1 => by
    obtain ⟨h1, h2⟩ := runL_len M r e k
    refine ⟨Nat.le_trans (evR_len _ _ _) h1, ?_⟩
    show ((runL M r e k).l ++ [_]).length = _
    rw [List.length_append, List.length_singleton, h2]
theorem rdC_max (r : List UInt8) (e : Int) (n : Nat) : rdC r e ((n : Nat) : Int) ≤ n := by
  unfold rdC
  split
  · rename_i h
    have h3 := h.2.2
    unfold limE at h3
    split at h3
    · cases h3
    · omega
  · exact Nat.zero_le _
theorem finL_len (M : Int) (r : List UInt8) (e : Int) : (finL M r e).rest.length ≤ r.length ∧ (finL M r e).l.length ≤ 15 := ⟨(runL_len _ _ _ _).1, by rw [finL, (runL_len _ _ _ _).2]; exact rdC_max r e 15⟩
theorem runC_len (M : Int) (r : List UInt8) (e : Int) : ∀ k, (runC M r e k).rest.length ≤ r.length ∧ (runC M r e k).l.length = k
  | 0 => ⟨rdR_len _ _ _ _, rfl⟩
  | k + 1 => by
    obtain ⟨h1, h2⟩ := runC_len M r e k
    refine ⟨Nat.le_trans (finL_len _ _ _).1 (Nat.le_trans (evR_len _ _ _) h1), ?_⟩
    show ((runC M r e k).l ++ [_]).length = _
    rw [List.length_append, List.length_singleton, h2]
theorem finC_len (M : Int) (r : List UInt8) (e : Int) : (finC M r e).rest.length ≤ r.length ∧ (finC M r e).l.length ≤ 8 := ⟨(runC_len _ _ _ _).1, by rw [finC, (runC_len _ _ _ _).2]; exact rdC_max r e 8⟩
theorem run_yes {k : Int} {j i : Nat} (h : j = i) (hb : bitH (hasM k) j = true) : runM M N r e k (j + 1) = stepM M N (runM M N r e k j) i := by subst h; rw [runM, if_pos hb]
theorem run_no {k : Int} {j : Nat} (hb : ¬ bitH (hasM k) j = true) : runM M N r e k (j + 1) = runM M N r e k j := by rw [runM, if_neg hb]
theorem stepM_len (s : RdM) (j : Nat) : (stepM M N s j).rest.length ≤ s.rest.length := by
  rcases (by omega : j = 0 ∨ j = 1 ∨ j = 2 ∨ j = 3 ∨ j = 4 ∨ j = 5 ∨ j = 6 ∨ j = 7 ∨ j = 8 ∨ 9 ≤ j) with h | h | h | h | h | h | h | h | h | h
  · subst h; exact rdR_len _ _ _ _
  · subst h; exact rdR_len _ _ _ _
  · subst h; exact Nat.le_trans (rdR_len _ _ _ _) (rdR_len _ _ _ _)
  · subst h; exact rdYR_len _ _ _
  · subst h; exact rdYR_len _ _ _
  · subst h; exact Nat.le_trans (rdR_len _ _ _ _) (rdR_len _ _ _ _)
  · subst h; exact (finL_len _ _ _).1
  · subst h; exact (finL_len _ _ _).1
  · subst h; exact (finC_len _ _ _).1
  · obtain ⟨i, rfl⟩ : ∃ i, j = i + 9 := ⟨j - 9, by omega⟩
    exact Nat.le_refl _
theorem runM_len (M N : Int) (r : List UInt8) (e k : Int) : ∀ j, (runM M N r e k j).rest.length ≤ r.length
  | 0 => Nat.le_refl _
  | j + 1 => by
    rw [runM]
    split
    · exact Nat.le_trans (stepM_len _ _) (runM_len M N r e k j)
    · exact runM_len M N r e k j
def fitM (n : Nat) (m : aM) : Prop := m.f_Batch.length ≤ 15 ∧ m.f_Pres.length ≤ 15 ∧ m.f_Certs.length ≤ 8 ∧ m.f_Data.length ≤ n ∧ m.f_Digest.length ≤ n
theorem stepM_fit {n : Nat} {s : RdM} (h : fitM n s.m) (hl : s.rest.length ≤ n) (j : Nat) : fitM n (stepM M N s j).m := by
  obtain ⟨h1, h2, h3, h4, h5⟩ := h
  rcases (by omega : j = 0 ∨ j = 1 ∨ j = 2 ∨ j = 3 ∨ j = 4 ∨ j = 5 ∨ j = 6 ∨ j = 7 ∨ j = 8 ∨ 9 ≤ j) with h | h | h | h | h | h | h | h | h | h
  · subst h; exact ⟨h1, h2, h3, h4, h5⟩
  · subst h; exact ⟨h1, h2, h3, h4, h5⟩
  · subst h; exact ⟨h1, h2, h3, h4, h5⟩
  · subst h; exact ⟨h1, h2, h3, h4, Nat.le_trans (rdY_len _ _ _) hl⟩
  · subst h; exact ⟨h1, h2, h3, Nat.le_trans (rdY_len _ _ _) hl, h5⟩
  · subst h; exact ⟨h1, h2, h3, h4, h5⟩
  · subst h; exact ⟨(finL_len _ _ _).2, h2, h3, h4, h5⟩
  · subst h; exact ⟨h1, (finL_len _ _ _).2, h3, h4, h5⟩
  · subst h; exact ⟨h1, h2, (finC_len _ _ _).2, h4, h5⟩
  · obtain ⟨i, rfl⟩ : ∃ i, j = i + 9 := ⟨j - 9, by omega⟩
    exact ⟨h1, h2, h3, h4, h5⟩
theorem runM_fit (M N : Int) (r : List UInt8) (e k : Int) : ∀ j, fitM r.length (runM M N r e k j).m
  | 0 => ⟨Nat.zero_le _, Nat.zero_le _, Nat.zero_le _, Nat.zero_le _, Nat.zero_le _⟩
  | j + 1 => by
    rw [runM]
    split
    · exact stepM_fit (runM_fit M N r e k j) (runM_len _ _ _ _ _ _) j
    · exact runM_fit M N r e k j
end
theorem dec_no {M N : Int} {b : List UInt8} (h : ¬ okD M N b) (hl : ¬ b.length > 16777216) : decW M N b = zM ∧ decX M N b = 12 := ⟨if_neg h, by rw [decX, if_neg hl, if_neg h]⟩
theorem dec_yes {M N : Int} {b : List UInt8} (h : okD M N b) : decW M N b = (finM M N b).m ∧ decX M N b = 0 := ⟨if_pos h, by rw [decX, if_neg (by have := h.1; omega), if_pos h]⟩
theorem dec_long {M N : Int} {b : List UInt8} (h : b.length > 16777216) : decW M N b = zM ∧ decX M N b = 11 := ⟨if_neg (fun q => by have := q.1; omega), if_pos h⟩
end Go.Proofs.YtalapplihdmenaaGreat.Q
namespace Go.Proofs.YtalapplihdmenaaGreat.Q
set_option linter.unusedVariables false
set_option linter.unusedSimpArgs false
set_option maxRecDepth 100000
section
variable {M M' : Int} {r : List UInt8} {e : Int}
end
end Go.Proofs.YtalapplihdmenaaGreat.Q
namespace Go.Proofs.YtalapplihdmenaaGreat.Q
set_option linter.unusedVariables false
end Go.Proofs.YtalapplihdmenaaGreat.Q
namespace Go.Proofs.YtalapplihdmenaaGreat.Q
open Go Go.RowKit
set_option linter.unusedVariables false
set_option linter.unusedSimpArgs false
set_option maxRecDepth 100000
set_option maxHeartbeats 4000000
theorem src_number (rest : List UInt8) (e : Int) (hr : rest.length ≤ 100000000) : Holds Tryz.prog 92 ⟨[.tv (.agg [.ptr 0 0])], [.box 160 [dU rest, dI e]], vI (rdI rest e), [.live (.box 160 [dU (rdR rest e 8 0), dI (rdE rest e 8 0)])]⟩ := by
 refine Holds.of Tryz.func92 rfl (N := 6) Tryz.ntmps92 rfl fun w0 B0 S0 U0 => ?_
 show T _ (mkBase 6 1 w0 S0 U0 B0) ⟨[.tv (.agg [.ptr 0 0])], [.live (.box 160 [dU rest, dI e])]⟩ _ _
 refine sR [] ?_
 refine sR [hR 2 rfl rfl (rCa (rd_Int rest e (by omega)) Tryz.func112 [0] [(.tmp 4, pv 0 0)] 1 1)] ?_
 refine T.ret ?_
 exact eRt 2 (.one (dI (rdI rest e))) [0] rfl (ix trivial)
section
variable (rest : List UInt8) (e : Int)
abbrev Z57 : List AV := [.tv (.agg [.ptr 0 0]), pv 1 0, pv 2 0, pv 3 0]
abbrev Z58 : HS := .live (.box 160 [dU (rdYR (rdR rest e 8 0) (rdE rest e 8 0) 16777216), dI (rdYE (rdR rest e 8 0) (rdE rest e 8 0) 16777216)])
abbrev Z59 : St := ⟨Z57, [(Z58 rest e), .live (.box 142 [.ptr 0 0]), .live (.box 35 [dI 0, .d (.val (.slice none 0 0))]), .live (.box 35 [dI (rdI rest e), .own 4 kU8.sz 0 (rdY (rdR rest e 8 0) (rdE rest e 8 0) 16777216).length]), .live (arrK 5 kU8 (rdY (rdR rest e 8 0) (rdE rest e 8 0) 16777216))]⟩
abbrev Z5a : SV := dU (rdY (rdR rest e 8 0) (rdE rest e 8 0) 16777216)
end
theorem src_envelope (rest : List UInt8) (e : Int) (hr : rest.length ≤ 100000000) : Holds Tryz.prog 116 ⟨[.tv (.agg [.ptr 0 0])], [.box 160 [dU rest, dI e]], .tv (.agg [dI (evV 16777216 rest e).f_Signer, dU (evV 16777216 rest e).f_Body]), [.live (.box 160 [dU (evR 16777216 rest e), dI (evE 16777216 rest e)])]⟩ := by
 refine Holds.of Tryz.func116 rfl (N := 12) Tryz.ntmps116 rfl fun w0 B0 S0 U0 => ?_
 show T _ (mkBase 12 1 w0 S0 U0 B0) ⟨[.tv (.agg [.ptr 0 0])], [.live (.box 160 [dU rest, dI e])]⟩ _ _
 have hr1 := rdR_len rest e 8 0
 have hr2 := rdY_len (rdR rest e 8 0) (rdE rest e 8 0) 16777216
 refine sR [] ?_
 refine sR [hR 1 rfl rfl (rCa (src_number rest e ‹_›) Tryz.func92 [0] [(.tmp 4, .tv (.agg [.ptr 0 0]))] 1 1)] ?_
 refine sR [hR 2 rfl rfl (rCa (rd_Bytes (rdR rest e 8 0) (rdE rest e 8 0) 16777216 (by omega)) Tryz.func94 [0, 4] [(.tmp 8, pv 0 0), (.const (.int .i64 16777216), vI 16777216)] 1 2)] ?_
 refine tN (Z59 rest e) ?_
 refine T.turn (s' := ⟨Z57, [(Z58 rest e), .live (.box 142 [.ptr 0 0]), .live (.box 35 [dI 0, .d (.val (.slice none 0 0))]), .live (.box 35 [dI (rdI rest e), (Z5a rest e)]), .dead]⟩) (fun _ _ hG => Gs.freeze (s := (Z59 rest e)) 4 (el := elOf kU8 (rdY (rdR rest e 8 0) (rdE rest e 8 0) 16777216)) (sz := kU8.sz) (n := (rdY (rdR rest e 8 0) (rdE rest e 8 0) 16777216).length) rfl (kk4 trivial) ⟨(.inr ⟨by decide, .inl rfl⟩), ⟨(.inr ⟨by decide, .inl rfl⟩), ⟨(.inr ⟨by decide, .inl rfl⟩), ⟨(.inr ⟨by decide, .inr ⟨rfl, ⟨.inl rfl, ⟨(.inr ⟨rfl, rfl, rfl, (fun h => by cases h), rfl, rfl, Nat.le_of_eq (Nat.zero_add _), fun i j _ => by rw [Nat.zero_add]⟩), trivial⟩⟩⟩⟩), ⟨(.inl ⟨rfl, rfl⟩), trivial⟩⟩⟩⟩⟩ hG) ?_
 refine sR [] ?_
 refine T.ret ?_
 exact eX [.c 2 2 35 0 35 [dI (rdI rest e), (Z5a rest e)] (.agg [dI (rdI rest e), (Z5a rest e)])] ⟨⟨rfl, rfl, by kernel_rfl, by kernel_rfl, .inl ⟨2, wide_35, rfl, Nat.le_of_ble_eq_true rfl⟩⟩, trivial⟩ [0] (cg2 (fun (q1 : Int) (q2 : List UInt8) => (.tv (.agg [dI q1, dU q2]) : AV)) (by rfl) (by rfl)) ⟨⟨rfl, (by have e1 : ((rdYR (rdR rest e 8 0) (rdE rest e 8 0) 16777216) : List UInt8) = (evR 16777216 rest e) := (by rfl); have e2 : ((rdYE (rdR rest e 8 0) (rdE rest e 8 0) 16777216) : Int) = (evE 16777216 rest e) := (by rfl); have hE := congr (congrArg (fun (q1 : List UInt8) (q2 : Int) => (.live (.box 160 [dU q1, dI q2]) : HS)) e1) e2; exact Eq.trans (by kernel_rfl) hE)⟩, trivial⟩
section
variable (rest : List UInt8) (e : Int) (k : Nat)
abbrev Z5b : AV := vI ((rdC rest e 15 : Nat) : Int)
abbrev Z5c : HS := .live (.box 160 [dU (rdR rest e 4 (limE 15 (rest.take 4))), dI (rdE rest e 4 (limE 15 (rest.take 4)))])
abbrev Z5d : HS := .live (.box 142 [.ptr 0 0])
abbrev Z5e := (runL 16777216 rest e k)
abbrev Z5f : List HS := [.live (.box 160 [dU (Z5e rest e k).rest, dI (Z5e rest e k).e]), Z5d, .live (arrK 35 (kE false) (Z5e rest e k).l)]
abbrev Z5g : St := ⟨[aa, pv 1 0, ownV 2 (kE false) 0 (Z5e rest e k).l.length, aa, aa, (Z5b rest e), vI ((k : Nat) : Int)], (Z5f rest e k)⟩
abbrev Z5j := (evV 16777216 (Z5e rest e k).rest (Z5e rest e k).e)
abbrev Z5k : AV := vI ((k + 1 : Nat) : Int)
abbrev Z5l : List HS := [.live (.box 160 [dU (runL 16777216 rest e (k + 1)).rest, dI (runL 16777216 rest e (k + 1)).e]), Z5d, .live (arrK 35 (kE false) (runL 16777216 rest e (k + 1)).l)]
abbrev Z5m : St := ⟨[aa, pv 1 0, ownV 2 (kE false) 0 (Z5e rest e k).l.length, aa, aa, (Z5b rest e), vI ((k : Nat) : Int), vB (decide (((k : Nat) : Int) < ((rdC rest e 15 : Nat) : Int)))], (Z5f rest e k)⟩
end
theorem src_list (rest : List UInt8) (e : Int) (hr : rest.length ≤ 100000000) : Holds Tryz.prog 95 ⟨[.tv (.agg [.ptr 0 0])], [.box 160 [dU rest, dI e]], slV false false (kE false) (finL 16777216 rest e).l, [.live (.box 160 [dU (finL 16777216 rest e).rest, dI (finL 16777216 rest e).e])]⟩ := by
 refine Holds.of Tryz.func95 rfl (N := 15) Tryz.ntmps95 rfl fun w0 B0 S0 U0 => ?_
 show T _ (mkBase 15 1 w0 S0 U0 B0) ⟨[.tv (.agg [.ptr 0 0])], [.live (.box 160 [dU rest, dI e])]⟩ _ _
 have hr1 := rdR_len rest e 4 (limE 15 (rest.take 4))
 refine sR [] ?_
 refine T.seq ?_
 refine sR [hR 2 rfl rfl (rCa (rd_Count rest e 15 (by omega)) Tryz.func113 [0] [(.tmp 4, pv 0 0), (.const (.int .i64 15), vI 15)] 1 1)] ?_
 refine T.block ?_
 refine tN ⟨[.tv (.agg [.ptr 0 0]), pv 1 0, dv (.slice none 0 0), aa, aa, (Z5b rest e), vI 0], [(Z5c rest e), Z5d]⟩ ?_
 refine T.turn (s' := ⟨[.tv (.agg [.ptr 0 0]), pv 1 0, ownV 2 (kE false) 0 0, aa, aa, (Z5b rest e), vI 0], [(Z5c rest e), Z5d, .live (arrK 35 (kE false) ([] : List aE))]⟩) (fun _ _ hG => Gs.absent 2 2 35 (kE false) rfl rfl hG) ?_
 refine T.loop (ι := Nat) (fun (k : Nat) => (Z5g rest e k)) (fun (k : Nat) => (k ≤ rdC rest e 15)) (fun (k : Nat) => rdC rest e 15 - k) (0) (Nat.zero_le _) (fun _ _ hG => Gs.iI [0, 1, 2] (bm 7 102) (t2 := [aa, pv 1 0, ownV 2 (kE false) 0 0, aa, aa, (Z5b rest e), vI 0]) (h2 := [(Z5c rest e), Z5d, .live (arrK 35 (kE false) ([] : List aE))]) (congrArg (fun (q1 : Nat) => ([aa, pv 1 0, ownV 2 (kE false) 0 q1, aa, aa, (Z5b rest e), vI 0] : List AV)) (by rfl)) (cg3 (fun (q1 : List UInt8) (q2 : Int) (q3 : List aE) => ([.live (.box 160 [dU q1, dI q2]), Z5d, .live (arrK 35 (kE false) q3)] : List HS)) (by rfl) (by rfl) (by rfl)) hG) ?_
 rintro k hk
 show T _ _ (Z5g rest e k) _ _
 replace hk : k ≤ rdC rest e 15 := hk
 have hg := runL_len 16777216 rest e k
 have hg1 := hg.1
 have hg2 := hg.2
 have hcm : rdC rest e 15 ≤ 15 := rdC_max rest e 15
 refine sR [] ?_
 refine T.seq ?_
 by_cases hq1 : ((k : Nat) : Int) < ((rdC rest e 15 : Nat) : Int)
 ·refine cT (dT hq1) ?_
  refine T.skip (nT (T.seq ?_))
  refine T.block ?_
  refine xR [hR 2 rfl rfl (rCa (src_envelope (runL 16777216 rest e k).rest (runL 16777216 rest e k).e (by omega)) Tryz.func116 [0] [(.tmp 9, .tv (.agg [.ptr 0 0]))] 1 1),
    hR 3 rfl rfl (q_buildSlice 3 35 (kE false) (k_api_Envelope_ok false) [(evV 16777216 (runL 16777216 rest e k).rest (runL 16777216 rest e k).e)] [⟨0, .tmp 10, .agg [dI (Z5j rest e k).f_Signer, dU (Z5j rest e k).f_Body], 0⟩] (cs := [dI (Z5j rest e k).f_Signer, dU (Z5j rest e k).f_Body]) Tryz.underlying36 iat_35 rfl zero_35 rfl rfl rfl (Nat.le_of_ble_eq_true rfl) (part_cons rfl rfl (Nat.le_of_ble_eq_true rfl) part_ok) (by kernel_rfl) (wk_eq (by kernel_rfl)) (lt_of rfl) trivial),
    hR 4 rfl rfl (q_appendO 2 4 35 32 (kE false) (k_api_Envelope_ok false) (runL 16777216 rest e k).l [(evV 16777216 (runL 16777216 rest e k).rest (runL 16777216 rest e k).e)] ((runL 16777216 rest e k).l ++ [(evV 16777216 (runL 16777216 rest e k).rest (runL 16777216 rest e k).e)]) (runL 16777216 rest e k).l.length (sy := (.own 3 (kE false).sz 0 [(Z5j rest e k)].length)) (rhs := [(3, .live (arrK 35 (kE false) [(Z5j rest e k)]))]) elem_36 (by omega) (src_own 3 35 (kE false) [(evV 16777216 (runL 16777216 rest e k).rest (runL 16777216 rest e k).e)]) (by rw [List.take_length]) (by (simp [maxLen, -List.getD_eq_getElem?_getD] <;> omega)) (by (simp [maxLen, -List.getD_eq_getElem?_getD] <;> omega)) (lt_of rfl) trivial)] (by kernel_rfl) (by kernel_rfl) ?_
  refine nB ?_
  refine nT ?_
  refine xK [hR 0 rfl rfl (r_bin (u1 := .int .i64 ((k : Nat) : Int)) (u2 := .int .i64 1) (v := .int .i64 ((k + 1 : Nat) : Int)) (b_add (by rw [IntKind.wrap_i64]; omega)) (lt_of rfl) ⟨rfl, trivial⟩)] ?_
  refine nL (k + 1) (show (k + 1) ≤ rdC rest e 15 from (by omega)) (show (rdC rest e 15 - (k + 1) : Nat) < rdC rest e 15 - k from (by omega)) (fun _ _ hG => Gs.i2 [0, 1, 4] (bm 7 102) (t1 := [aa, pv 1 0, ownV 4 (kE false) 0 (runL 16777216 rest e (k + 1)).l.length, aa, aa, (Z5b rest e), (Z5k k)]) (t2 := [aa, pv 1 0, ownV 4 (kE false) 0 ((Z5e rest e k).l ++ [(Z5j rest e k)]).length, aa, aa, (Z5b rest e), (Z5k k)]) (h1 := (Z5l rest e k)) (h2 := [.live (.box 160 [dU (evR 16777216 (Z5e rest e k).rest (Z5e rest e k).e), dI (evE 16777216 (Z5e rest e k).rest (Z5e rest e k).e)]), Z5d, .live (arrK 35 (kE false) ((Z5e rest e k).l ++ [(Z5j rest e k)]))]) (congrArg (fun (q1 : Nat) => ([aa, pv 1 0, ownV 4 (kE false) 0 q1, aa, aa, (Z5b rest e), (Z5k k)] : List AV)) (by rfl)) (cg3 (fun (q1 : List UInt8) (q2 : Int) (q3 : List aE) => ([.live (.box 160 [dU q1, dI q2]), Z5d, .live (arrK 35 (kE false) q3)] : List HS)) (by rfl) (by rfl) (by rfl)) hG)
 refine cF (dF hq1) ?_
 refine T.exit ?_
 refine xT ?_
 refine xT ?_
 refine xH ?_
 refine nT ?_
 refine sR [] ?_
 refine T.ret ?_
 refine eN (Z5m rest e k) ?_
 refine Ends.turn (s' := ⟨[aa, pv 1 0, slV false false (kE false) (Z5e rest e k).l, aa, aa, (Z5b rest e), vI ((k : Nat) : Int), vB (decide (((k : Nat) : Int) < ((rdC rest e 15 : Nat) : Int)))], [.live (.box 160 [dU (Z5e rest e k).rest, dI (Z5e rest e k).e]), Z5d, .dead]⟩) (fun _ _ hG => Gs.freeze (s := (Z5m rest e k)) 2 (el := elOf (kE false) (runL 16777216 rest e k).l) (sz := (kE false).sz) (n := (runL 16777216 rest e k).l.length) rfl (kk2 ⟨(.inr (.inr ⟨rfl, rfl, rfl, (fun h => by cases h), rfl, rfl, Nat.le_of_eq (Nat.zero_add _), fun i j _ => by rw [Nat.zero_add]⟩)), ⟨.inl rfl, (kk4 trivial)⟩⟩) ⟨(.inr ⟨by decide, .inl rfl⟩), ⟨(.inr ⟨by decide, .inl rfl⟩), ⟨(.inl ⟨rfl, rfl⟩), trivial⟩⟩⟩ hG) ?_
 exact eRt 2 (.one (.d (dsl false false (kE false) (Z5e rest e k).l))) [0] (by have e1 : ((finL 16777216 rest e).l : List aE) = (runL 16777216 rest e k).l := (by (rw [finL, show rdC rest e 15 = k by omega]; done)); have hE := congrArg (fun (q1 : List aE) => (slV false false (kE false) q1 : AV)) e1; exact hE) ⟨⟨rfl, (by have e1 : ((runL 16777216 rest e k).rest : List UInt8) = (finL 16777216 rest e).rest := (by (rw [finL, show rdC rest e 15 = k by omega]; done)); have e2 : ((runL 16777216 rest e k).e : Int) = (finL 16777216 rest e).e := (by (rw [finL, show rdC rest e 15 = k by omega]; done)); have hE := congr (congrArg (fun (q1 : List UInt8) (q2 : Int) => (.live (.box 160 [dU q1, dI q2]) : HS)) e1) e2; exact Eq.trans (by kernel_rfl) hE)⟩, trivial⟩
end Go.Proofs.YtalapplihdmenaaGreat.Q
