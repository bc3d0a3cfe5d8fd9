import Derived.Test.YtalapplihdmenaaGreatC13n0
namespace Go.Proofs.YtalapplihdmenaaGreat.Q
set_option linter.unusedVariables false
set_option linter.unusedSimpArgs false
set_option maxRecDepth 100000
def andI (a b : Int) : Int := IntKind.i64.wrap ((BitVec.ofInt 64 a &&& BitVec.ofInt 64 b).toNat : Int)
def orI (a b : Int) : Int := IntKind.i64.wrap ((BitVec.ofInt 64 a ||| BitVec.ofInt 64 b).toNat : Int)
section
variable {P : Program}
theorem b_andI {t : TypeId} {a b c : Int} (h : andI a b = c) : BinR P .and t (.int .i64 a) (.int .i64 b) (.int .i64 c) := bin_of (.inl fun _ => by simp) (.inl (by simp)) fun w => by
  subst h
  rfl
theorem b_orI {t : TypeId} {a b c : Int} (h : orI a b = c) : BinR P .or t (.int .i64 a) (.int .i64 b) (.int .i64 c) := bin_of (.inl fun _ => by simp) (.inl (by simp)) fun w => by
  subst h
  rfl
end
def shapeM (k : Int) : message_shape := if k = 1 then ⟨20, 0, 1, 7⟩ else if k = 2 then ⟨75, 0, 1, 4⟩ else if k = 3 then ⟨11, 0, 1, 7⟩ else if k = 4 then ⟨11, 0, 1, 7⟩ else if k = 5 then ⟨10, 0, 1, 7⟩ else if k = 6 then ⟨323, 1, 0, 7⟩ else if k = 7 then ⟨193, 1, 1, 7⟩ else if k = 8 then ⟨37, 0, 1, 7⟩ else if k = 9 then ⟨2, 0, 0, 7⟩ else if k = 10 then ⟨256, 0, 1, 7⟩ else if k = 11 then ⟨82, 0, 1, 7⟩ else ⟨0, 0, 1, 7⟩
def hasM (k : Int) : aH := if k = 1 then ⟨false, false, true, false, true, false, false, false, false⟩ else if k = 2 then ⟨true, true, false, true, false, false, true, false, false⟩ else if k = 3 then ⟨true, true, false, true, false, false, false, false, false⟩ else if k = 4 then ⟨true, true, false, true, false, false, false, false, false⟩ else if k = 5 then ⟨false, true, false, true, false, false, false, false, false⟩ else if k = 6 then ⟨true, true, false, false, false, false, true, false, true⟩ else if k = 7 then ⟨true, false, false, false, false, false, true, true, false⟩ else if k = 8 then ⟨true, false, true, false, false, true, false, false, false⟩ else if k = 9 then ⟨false, true, false, false, false, false, false, false, false⟩ else if k = 10 then ⟨false, false, false, false, false, false, false, false, true⟩ else if k = 11 then ⟨false, true, false, false, true, false, true, false, false⟩ else ⟨false, false, false, false, false, false, false, false, false⟩
def okK (k : Int) : Prop := 1 ≤ k ∧ k ≤ 11
instance (k : Int) : Decidable (okK k) := inferInstanceAs (Decidable (_ ∧ _))
theorem kinds (k : Int) : k = 1 ∨ k = 2 ∨ k = 3 ∨ k = 4 ∨ k = 5 ∨ k = 6 ∨ k = 7 ∨ k = 8 ∨ k = 9 ∨ k = 10 ∨ k = 11 ∨ ¬ okK k := by unfold okK; omega
theorem shapeM_no {k : Int} (h : ¬ okK k) : shapeM k = ⟨0, 0, 1, 7⟩ := by
  unfold okK at h
  unfold shapeM
  rw [if_neg (by omega), if_neg (by omega), if_neg (by omega), if_neg (by omega), if_neg (by omega), if_neg (by omega), if_neg (by omega), if_neg (by omega), if_neg (by omega), if_neg (by omega), if_neg (by omega)]
theorem hasM_no {k : Int} (h : ¬ okK k) : hasM k = ⟨false, false, false, false, false, false, false, false, false⟩ := by
  unfold okK at h
  unfold hasM
  rw [if_neg (by omega), if_neg (by omega), if_neg (by omega), if_neg (by omega), if_neg (by omega), if_neg (by omega), if_neg (by omega), if_neg (by omega), if_neg (by omega), if_neg (by omega), if_neg (by omega)]
def bitH (h : aH) : Nat → Bool
  | 0 => h.f_View
  | 1 => h.f_Seq
  | 2 => h.f_Client
  | 3 => h.f_Digest
  | 4 => h.f_Data
  | 5 => h.f_Result
  | 6 => h.f_Batch
  | 7 => h.f_Pres
  | 8 => h.f_Certs
  | _ => false
def bits9 (h : aH) : List Bool := [h.f_View, h.f_Seq, h.f_Client, h.f_Digest, h.f_Data, h.f_Result, h.f_Batch, h.f_Pres, h.f_Certs]
def bitsS (n : Int) : List Bool := [decide (andI n 1 ≠ 0), decide (andI n 2 ≠ 0), decide (andI n 4 ≠ 0), decide (andI n 8 ≠ 0), decide (andI n 16 ≠ 0), decide (andI n 32 ≠ 0), decide (andI n 64 ≠ 0), decide (andI n 128 ≠ 0), decide (andI n 256 ≠ 0)]
theorem shape_bits (k : Int) : bitsS (shapeM k).f_has = bits9 (hasM k) := by
  rcases kinds k with h | h | h | h | h | h | h | h | h | h | h | h
  case inr.inr.inr.inr.inr.inr.inr.inr.inr.inr.inr => rw [shapeM_no h, hasM_no h]; decide +kernel
  all_goals (subst h; decide +kernel)
theorem bits_of {n : Int} {h : aH} (e : bitsS n = bits9 h) : (andI n 1 = 0 ↔ ¬ h.f_View = true) ∧ (andI n 2 = 0 ↔ ¬ h.f_Seq = true) ∧ (andI n 4 = 0 ↔ ¬ h.f_Client = true) ∧ (andI n 8 = 0 ↔ ¬ h.f_Digest = true) ∧ (andI n 16 = 0 ↔ ¬ h.f_Data = true) ∧ (andI n 32 = 0 ↔ ¬ h.f_Result = true) ∧ (andI n 64 = 0 ↔ ¬ h.f_Batch = true) ∧ (andI n 128 = 0 ↔ ¬ h.f_Pres = true) ∧ (andI n 256 = 0 ↔ ¬ h.f_Certs = true) := by
  unfold bitsS bits9 at e
  simp only [List.cons.injEq, and_true] at e
  obtain ⟨e1, e2, e3, e4, e5, e6, e7, e8, e9⟩ := e
  have key : ∀ {x : Int} {b : Bool}, decide (x ≠ 0) = b → (x = 0 ↔ ¬ b = true) := fun {x b} q => by subst q; simp
  exact ⟨key e1, key e2, key e3, key e4, key e5, key e6, key e7, key e8, key e9⟩
theorem bit_pow {k : Int} {j : Nat} (hj : j ≤ 8) : andI (shapeM k).f_has ((2 ^ j : Nat) : Int) = 0 ↔ ¬ bitH (hasM k) j = true := by
  obtain ⟨e1, e2, e3, e4, e5, e6, e7, e8, e9⟩ := bits_of (shape_bits k)
  rcases (by omega : j = 0 ∨ j = 1 ∨ j = 2 ∨ j = 3 ∨ j = 4 ∨ j = 5 ∨ j = 6 ∨ j = 7 ∨ j = 8) with h | h | h | h | h | h | h | h | h <;> subst h <;> assumption
theorem pow_le {j : Nat} (hj : j ≤ 9) : ((2 ^ j : Nat) : Int) ≤ 256 ↔ j ≤ 8 := by
  rcases (by omega : j = 0 ∨ j = 1 ∨ j = 2 ∨ j = 3 ∨ j = 4 ∨ j = 5 ∨ j = 6 ∨ j = 7 ∨ j = 8 ∨ j = 9) with h | h | h | h | h | h | h | h | h | h <;> subst h <;> decide
theorem pow_le9 {j : Nat} (hj : j ≤ 9) : 2 ^ j ≤ 512 := Nat.pow_le_pow_right (n := 2) (by decide) hj
theorem pow_is {j i : Nat} (hj : j ≤ 9) (h : ((2 ^ j : Nat) : Int) = ((2 ^ i : Nat) : Int)) : j = i := Nat.pow_right_inj (a := 2) (by decide) |>.1 (Int.ofNat.inj h)
def inM (s : message_shape) (f n lo hi : Int) : Prop := if andI s.f_has f = 0 then 0 ≤ n ∧ n ≤ 0 else lo ≤ n ∧ n ≤ hi
instance (s : message_shape) (f n lo hi : Int) : Decidable (inM s f n lo hi) := by unfold inM; infer_instance
def fewV (l : List aC) : Prop := ∀ c, c ∈ l → c.f_Votes.length ≤ 7
instance (l : List aC) : Decidable (fewV l) := inferInstanceAs (Decidable (∀ c, c ∈ l → _))
theorem fewV_all {l : List aC} {k : Nat} (hb : ∀ j, j < k → (l.getD j zC).f_Votes.length ≤ 7) (hk : l.length ≤ k) : fewV l := fun c hc => by
  obtain ⟨j, hj, rfl⟩ := List.getElem_of_mem hc
  have := hb j (by omega)
  rw [List.getD_eq_getElem?_getD, List.getElem?_eq_getElem hj] at this
  exact this
def idxV (l : List aC) : Int := if fewV l then -1 else ((l.findIdx fun c => decide (7 < c.f_Votes.length) : Nat) : Int)
theorem idx_no {l : List aC} {k : Nat} (hb : ∀ j, j < k → (l.getD j zC).f_Votes.length ≤ 7) (hk : l.length ≤ k) : idxV l = -1 := if_pos (fewV_all hb hk)
theorem idx_at {l : List aC} {k : Nat} (hb : ∀ j, j < k → (l.getD j zC).f_Votes.length ≤ 7) (hk : k < l.length) (h : 7 < (l.getD k zC).f_Votes.length) : idxV l = ((k : Nat) : Int) := by
  have e : ∀ j (hj : j < l.length), l.getD j zC = l[j] := fun j hj => by rw [List.getD_eq_getElem?_getD, List.getElem?_eq_getElem hj]; rfl
  have hn : ¬ fewV l := fun w => by
    have := w _ (getD_mem (z := zC) hk)
    omega
  rw [idxV, if_neg hn, (List.findIdx_eq hk).2 ⟨?_, fun j hj => ?_⟩]
  · rw [e k hk] at h; exact decide_eq_true h
  · have := hb j hj
    rw [e j (by omega)] at this
    exact decide_eq_false (by omega)
theorem idx_few (l : List aC) : idxV l ≥ 0 ↔ ¬ fewV l := by
  unfold idxV
  split
  · rename_i h; exact ⟨(fun w => by omega), fun w => absurd h w⟩
  · rename_i h; exact ⟨fun _ => h, fun _ => Int.natCast_nonneg _⟩
def wellM (m : aM) : Prop := okK m.f_Kind ∧ inM (shapeM m.f_Kind) 1 m.f_View (shapeM m.f_Kind).f_minView 1099511627776 ∧ inM (shapeM m.f_Kind) 2 m.f_Seq (shapeM m.f_Kind).f_minSeq 1099511627776 ∧ inM (shapeM m.f_Kind) 4 m.f_Client 0 1099511627776 ∧ inM (shapeM m.f_Kind) 4 m.f_Stamp 1 1099511627776 ∧
  inM (shapeM m.f_Kind) 64 (m.f_Batch.length : Nat) 0 (shapeM m.f_Kind).f_batch ∧ inM (shapeM m.f_Kind) 128 (m.f_Pres.length : Nat) 0 8 ∧ inM (shapeM m.f_Kind) 256 (m.f_Certs.length : Nat) 0 8 ∧ inM (shapeM m.f_Kind) 8 (m.f_Digest.length : Nat) 0 (m.f_Digest.length : Nat) ∧ inM (shapeM m.f_Kind) 16 (m.f_Data.length : Nat) 0 (m.f_Data.length : Nat) ∧
  (andI (shapeM m.f_Kind).f_has 32 ≠ 0 ∨ m.f_Result = z_api_Result) ∧ (m.f_Kind ≠ 1 ∨ ((m.f_Data.length : Nat) : Int) ≤ 4096) ∧ (m.f_Kind ≠ 10 ∨ ((m.f_Certs.length : Nat) : Int) = 1) ∧ fewV m.f_Certs
instance (m : aM) : Decidable (wellM m) := by unfold wellM; infer_instance
def chkM (m : aM) : Int := if wellM m then 0 else 120
theorem chk0 {m : aM} : chkM m = 0 ↔ wellM m := by
  unfold chkM
  split
  · exact ⟨fun _ => ‹_›, fun _ => rfl⟩
  · exact ⟨(fun h => by cases h), fun h => absurd h ‹_›⟩
theorem nbB {b : Bool} (h : b = false) : ¬ b = true := fun q => by rw [h] at q; cases q
def numM (n : Int) (had : Bool) (lo : Int) : Prop := if had = true then n ≥ lo ∧ n ≤ 1099511627776 else n = 0
instance (n : Int) (had : Bool) (lo : Int) : Decidable (numM n had lo) := by unfold numM; infer_instance
def fstV (k : Int) : Int := if k = 6 then 1 else if k = 7 then 1 else 0
def fstS (k : Int) : Int := if k = 6 then 0 else if k = 7 then 1 else if k = 9 then 0 else 1
def maxB (k : Int) (h : aH) : Int := if k = 2 then 4 else if h.f_Batch = true then 7 else 0
def maxP (h : aH) : Int := if h.f_Pres = true then 8 else 0
def cntM (m : aM) (h : aH) : Prop := ((m.f_Batch.length : Nat) : Int) ≤ maxB m.f_Kind h ∧ ((m.f_Pres.length : Nat) : Int) ≤ maxP h ∧ ¬ (m.f_Kind = 10 ∧ ((m.f_Certs.length : Nat) : Int) ≠ 1) ∧ ¬ (¬ h.f_Certs = true ∧ ((m.f_Certs.length : Nat) : Int) > 0) ∧ ((m.f_Certs.length : Nat) : Int) ≤ 8 ∧ fewV m.f_Certs
instance (m : aM) (h : aH) : Decidable (cntM m h) := by unfold cntM; infer_instance
def wellR (m : aM) (h : aH) : Prop := okK m.f_Kind ∧ numM m.f_View h.f_View (fstV m.f_Kind) ∧ numM m.f_Seq h.f_Seq (fstS m.f_Kind) ∧ numM m.f_Client h.f_Client 0 ∧ numM m.f_Stamp h.f_Client 1 ∧ ¬ (m.f_Kind = 1 ∧ ((m.f_Data.length : Nat) : Int) > 4096) ∧
  ¬ (¬ h.f_Digest = true ∧ m.f_Digest ≠ []) ∧ ¬ (¬ h.f_Data = true ∧ ((m.f_Data.length : Nat) : Int) > 0) ∧ ¬ (¬ h.f_Result = true ∧ m.f_Result ≠ z_api_Result) ∧ cntM m h
theorem lo_is (k : Int) : (shapeM k).f_minView = fstV k ∧ (shapeM k).f_minSeq = fstS k ∧ ((hasM k).f_Batch = true → (shapeM k).f_batch = maxB k (hasM k)) ∧ (¬ (hasM k).f_Batch = true → maxB k (hasM k) = 0) := by
  rcases kinds k with h | h | h | h | h | h | h | h | h | h | h | h
  case inr.inr.inr.inr.inr.inr.inr.inr.inr.inr.inr =>
    rw [shapeM_no h, hasM_no h]
    unfold okK at h
    refine ⟨?_, ?_, (fun q => by cases q), fun _ => ?_⟩
    · unfold fstV; rw [if_neg (by omega), if_neg (by omega)]
    · unfold fstS; rw [if_neg (by omega), if_neg (by omega), if_neg (by omega)]
    · unfold maxB; rw [if_neg (by omega)]; rfl
  all_goals (subst h; decide +kernel)
theorem in_num {s : message_shape} {f n lo : Int} {b : Bool} (h : andI s.f_has f = 0 ↔ ¬ b = true) : inM s f n lo 1099511627776 ↔ numM n b lo := by
  unfold inM numM
  by_cases q : b = true
  · rw [if_neg (fun w => h.1 w q), if_pos q]
  · rw [if_pos (h.2 q), if_neg q]; omega
theorem in_len {s : message_shape} {f : Int} {n : Nat} {hi : Int} {b : Bool} (h : andI s.f_has f = 0 ↔ ¬ b = true) (hh : b = true → (n : Int) ≤ hi) : inM s f (n : Nat) 0 hi ↔ ¬ (¬ b = true ∧ (n : Int) > 0) := by
  unfold inM
  by_cases q : b = true
  · rw [if_neg (fun w => h.1 w q)]; exact ⟨fun _ w => w.1 q, fun _ => ⟨Int.natCast_nonneg _, hh q⟩⟩
  · rw [if_pos (h.2 q)]; exact ⟨(fun w v => by have := v.2; omega), fun w => ⟨Int.natCast_nonneg _, Int.not_lt.1 (fun v => w ⟨q, v⟩)⟩⟩
theorem in_lim {s : message_shape} {f : Int} {n : Nat} {hi : Int} {b : Bool} (h : andI s.f_has f = 0 ↔ ¬ b = true) : inM s f (n : Nat) 0 hi ↔ (n : Int) ≤ if b = true then hi else 0 := by
  unfold inM
  by_cases q : b = true
  · rw [if_neg (fun w => h.1 w q), if_pos q]; omega
  · rw [if_pos (h.2 q), if_neg q]; omega
theorem well_iff (m : aM) : wellM m ↔ wellR m (hasM m.f_Kind) := by
  obtain ⟨e1, e2, e3, e4, e5, e6, e7, e8, e9⟩ := bits_of (shape_bits m.f_Kind)
  obtain ⟨l1, l2, l3, l4⟩ := lo_is m.f_Kind
  have hB : inM (shapeM m.f_Kind) 64 (m.f_Batch.length : Nat) 0 (shapeM m.f_Kind).f_batch ↔ ((m.f_Batch.length : Nat) : Int) ≤ maxB m.f_Kind (hasM m.f_Kind) := by
    rw [in_lim e7]
    split
    · rw [l3 (by assumption)]
    · rw [l4 (by assumption)]
  have hC : inM (shapeM m.f_Kind) 256 (m.f_Certs.length : Nat) 0 8 ↔ ¬ (¬ (hasM m.f_Kind).f_Certs = true ∧ ((m.f_Certs.length : Nat) : Int) > 0) ∧ ((m.f_Certs.length : Nat) : Int) ≤ 8 := by
    rw [in_lim e9]
    split
    · rename_i q; exact ⟨fun w => ⟨fun v => v.1 q, w⟩, fun w => w.2⟩
    · rename_i q; exact ⟨fun w => ⟨(fun v => by have := v.2; omega), by omega⟩, fun w => Int.not_lt.1 (fun v => w.1 ⟨q, v⟩)⟩
  have hD : inM (shapeM m.f_Kind) 8 (m.f_Digest.length : Nat) 0 (m.f_Digest.length : Nat) ↔ ¬ (¬ (hasM m.f_Kind).f_Digest = true ∧ m.f_Digest ≠ []) := by
    rw [in_len e4 (fun _ => Int.le_refl _)]
    have : ((m.f_Digest.length : Nat) : Int) > 0 ↔ m.f_Digest ≠ [] := by
      rw [← List.length_pos_iff]; omega
    rw [this]
  have hP := in_lim (n := m.f_Pres.length) (hi := 8) e8
  have hV := in_num (n := m.f_View) (lo := (shapeM m.f_Kind).f_minView) e1
  have hS := in_num (n := m.f_Seq) (lo := (shapeM m.f_Kind).f_minSeq) e2
  have hA := in_len (n := m.f_Data.length) (hi := ((m.f_Data.length : Nat) : Int)) e5 (fun _ => Int.le_refl _)
  have hR : (andI (shapeM m.f_Kind).f_has 32 ≠ 0 ∨ m.f_Result = z_api_Result) ↔ ¬ (¬ (hasM m.f_Kind).f_Result = true ∧ m.f_Result ≠ z_api_Result) := by
    rw [Ne, e6, Classical.not_not]
    constructor
    · rintro (w | w) v
      · exact v.1 w
      · exact v.2 w
    · intro w
      by_cases q : (hasM m.f_Kind).f_Result = true
      · exact .inl q
      · exact .inr (Classical.byContradiction fun v => w ⟨q, v⟩)
  unfold wellM wellR cntM maxP
  rw [hB, hC, hD, hP, hV, hS, hA, hR, in_num e3, in_num e3, l1, l2]
  constructor
  · rintro ⟨a1, a2, a3, a4, a5, a6, a7, ⟨a8, a9⟩, a10, a11, a12, a13, a14, a15⟩
    exact ⟨a1, a2, a3, a4, a5, fun w => by rcases a13 with q | q <;> omega, a10, a11, a12, a6, a7, fun w => by rcases a14 with q | q <;> omega, a8, a9, a15⟩
  · rintro ⟨a1, a2, a3, a4, a5, a6, a7, a8, a9, b1, b2, b3, b4, b5, b6⟩
    exact ⟨a1, a2, a3, a4, a5, b1, b2, ⟨b4, b5⟩, a7, a8, a9, by omega, by omega, b6⟩
end Go.Proofs.YtalapplihdmenaaGreat.Q
namespace Go.Proofs.YtalapplihdmenaaGreat.Q
set_option linter.unusedVariables false
set_option linter.unusedSimpArgs false
section
variable {P : Program} {bs : Base}
theorem T.join {s : St} (s' : St) {x y : Code} {Q : Exit → Act → World → Prop} (h1 : T P bs s x (Exit.then (fun a w => Gs bs s' a w) Q)) (h2 : T P bs s' y Q) : T P bs s (.seq x y) Q := by
  refine T.seq fun a w hG b k cs => ?_
  obtain ⟨e, a', w', hq, harr⟩ := h1 a w hG b k cs
  refine ⟨e, a', w', ?_, harr⟩
  cases e with
  | normal => exact h2 a' w' hq
  | _ => exact hq
theorem nJ {s : St} {Q : Exit → Act → World → Prop} : Ends bs s .normal (Exit.then (fun a w => Gs bs s a w) Q) := fun a w h => h
end
end Go.Proofs.YtalapplihdmenaaGreat.Q
namespace Go.Proofs.YtalapplihdmenaaGreat.Q
open Go Go.RowKit
set_option linter.unusedVariables false
set_option linter.unusedSimpArgs false
set_option maxRecDepth 100000
set_option maxHeartbeats 4000000
theorem ref01_Same (ta : Bool) (na : Bool) (tb : Bool) (nb : Bool) (a : List UInt8) (b : List UInt8) : Holds Tryz.prog 30 ⟨[slV ta na kU8 a, slV tb nb kU8 b], [], vB (decide (a = b)), []⟩ := by
 refine Holds.of Tryz.func30 rfl (N := 10) Tryz.ntmps30 rfl fun w0 B0 S0 U0 => ?_
 show T _ (mkBase 10 0 w0 S0 U0 B0) ⟨[slV ta na kU8 a, slV tb nb kU8 b], []⟩ _ _
 refine sR [] ?_
 refine sR [hR 1 rfl rfl (q_strOf () a (ys := (.d (dsl ta na kU8 a))) (rhs := []) Tryz.underlying33 Tryz.underlying5 Tryz.underlying9 (src_sl ta na kU8 a) (lt_of rfl) trivial),
   hR 3 rfl rfl (q_strOf () b (ys := (.d (dsl tb nb kU8 b))) (rhs := []) Tryz.underlying33 Tryz.underlying5 Tryz.underlying9 (src_sl tb nb kU8 b) (lt_of rfl) trivial)] ?_
 refine T.ret ?_
 exact eRt 4 (.one (dB (decide (a = b)))) [] rfl trivial
theorem iat_5 : Tryz.prog.info? 5 = some Tryz.t5 := by kernel_rfl
theorem zero_5 : Zero Tryz.prog 5 [.int .u8 0] := ⟨_, _, iat_5, rfl, rfl⟩
theorem elem_33 : Elem Tryz.prog 33 5 1 1 := ⟨Tryz.underlying33, _, _, iat_5, rfl, rfl, rfl, rfl, by decide⟩
theorem clone_u8 (ta : Bool) (na : Bool) (a : List UInt8) (hp : a.length ≤ 140737488355328) : Holds Tryz.prog 69 ⟨[slV ta na kU8 a], [], ownV 0 kU8 0 a.length, [.live (arrK 5 kU8 a)]⟩ := by
 refine Holds.of Tryz.func69 rfl (N := 8) Tryz.ntmps69 rfl fun w0 B0 S0 U0 => ?_
 show T _ (mkBase 8 0 w0 S0 U0 B0) ⟨[slV ta na kU8 a], []⟩ _ _
 cases na
 ·refine T.nilOr (k := 0) rfl (fun h0 => ?_) ?_
  ·have h0 := List.eq_nil_of_length_eq_zero h0
   subst h0
   show T _ _ ⟨[dv (.slice none 0 0)], []⟩ _ _
   refine sR [] ?_
   refine T.seq ?_
   refine sR [hR 1 rfl rfl (r_bin (u1 := .slice none 0 0) (u2 := .slice none 0 0) (v := .bool true) (b_eqlNilS Tryz.underlying33) (lt_of rfl) ⟨rfl, trivial⟩)] ?_
   refine cT (b := true) rfl ?_
   refine sR [] ?_
   refine T.ret (rT ?_)
   refine eN ⟨[dv (.slice none 0 0), aa, dv (.slice none 0 0), aa, vB true], []⟩ ?_
   refine Ends.turn (s' := ⟨[dv (.slice none 0 0), aa, ownV 0 kU8 0 0, aa, vB true], [.live (arrK 5 kU8 ([] : List UInt8))]⟩) (fun _ _ hG => Gs.absent 0 2 5 kU8 rfl rfl hG) ?_
   exact eRt 2 (.one (.own 0 kU8.sz 0 0)) [0] (congrArg (fun (q1 : Nat) => (ownV 0 kU8 0 q1 : AV)) (by rfl)) (ix trivial)
  show T _ _ ⟨[slV ta true kU8 a], []⟩ _ _
  refine sR [] ?_
  refine T.seq ?_
  refine sR [hR 1 rfl rfl (r_eqNil (s := .d (dsl ta true kU8 a)) Tryz.underlying33 (.inl rfl) (lt_of rfl) ⟨rfl, trivial⟩)] ?_
  refine cF (b := false) rfl ?_
  refine T.skip (nT ?_)
  refine sR [hR 0 rfl rfl (q_buildSlice 0 5 kU8 kU8_ok ([] : List UInt8) [] (cs := []) Tryz.underlying33 iat_5 rfl zero_5 rfl rfl rfl (Nat.le_of_ble_eq_true rfl) part_ok (by kernel_rfl) (wk_eq (by kernel_rfl)) (lt_of rfl) trivial),
    hR 2 rfl rfl (q_appendO 0 1 5 1 kU8 kU8_ok ([] : List UInt8) a a ([] : List UInt8).length (sy := (.d (dsl ta true kU8 a))) (rhs := []) elem_33 (by omega) (src_sl ta true kU8 a) (by simp) (by (simp [maxLen, -List.getD_eq_getElem?_getD] <;> omega)) (by (simp [maxLen, -List.getD_eq_getElem?_getD] <;> omega)) (lt_of rfl) trivial)] ?_
  refine T.ret ?_
  exact eRt 2 (.one (.own 1 kU8.sz 0 a.length)) [1] rfl (ix trivial)
 refine sR [] ?_
 refine T.seq ?_
 refine sR [hR 1 rfl rfl (r_eqNil (s := .d (dsl ta true kU8 a)) Tryz.underlying33 (.inl rfl) (lt_of rfl) ⟨rfl, trivial⟩)] ?_
 refine cF (b := false) rfl ?_
 refine T.skip (nT ?_)
 refine sR [hR 0 rfl rfl (q_buildSlice 0 5 kU8 kU8_ok ([] : List UInt8) [] (cs := []) Tryz.underlying33 iat_5 rfl zero_5 rfl rfl rfl (Nat.le_of_ble_eq_true rfl) part_ok (by kernel_rfl) (wk_eq (by kernel_rfl)) (lt_of rfl) trivial),
   hR 2 rfl rfl (q_appendO 0 1 5 1 kU8 kU8_ok ([] : List UInt8) a a ([] : List UInt8).length (sy := (.d (dsl ta true kU8 a))) (rhs := []) elem_33 (by omega) (src_sl ta true kU8 a) (by simp) (by (simp [maxLen, -List.getD_eq_getElem?_getD] <;> omega)) (by (simp [maxLen, -List.getD_eq_getElem?_getD] <;> omega)) (lt_of rfl) trivial)] ?_
 refine T.ret ?_
 exact eRt 2 (.one (.own 1 kU8.sz 0 a.length)) [1] rfl (ix trivial)
theorem iat_3 : Tryz.prog.info? 3 = some Tryz.t3 := by kernel_rfl
theorem authn_New (f : Int) (u : Int) : Holds Tryz.prog 24 ⟨[vI f, vI u], [], pv 0 0, [.live (.box 98 [dI (3 * (fOf f) + 1), dI (cOf u), .mref 1]), .live (mpK f_authn_pair kBool ([] : List (authn_pair × Bool)))]⟩ := by
 refine Holds.of Tryz.func24 rfl (N := 16) Tryz.ntmps24 rfl fun w0 B0 S0 U0 => ?_
 show T _ (mkBase 16 0 w0 S0 U0 B0) ⟨[vI f, vI u], []⟩ _ _
 refine sR [] ?_
 refine sR [hR 1 rfl rfl (r_max (k := .i64) (a := f) (b := 0) (lt_of rfl) ⟨rfl, trivial⟩),
   hR 2 rfl rfl (r_min (k := .i64) (a := max f 0) (b := 2) (lt_of rfl) ⟨rfl, trivial⟩),
   hR 3 rfl rfl (r_bin (u1 := .int .i64 3) (u2 := .int .i64 (min (max f 0) 2)) (v := .int .i64 (3 * (min (max f 0) 2))) (b_mul (by rw [IntKind.wrap_i64]; omega)) (lt_of rfl) ⟨rfl, trivial⟩),
   hR 4 rfl rfl (r_bin (u1 := .int .i64 (3 * (min (max f 0) 2))) (u2 := .int .i64 1) (v := .int .i64 ((3 * (min (max f 0) 2)) + 1)) (b_add (by rw [IntKind.wrap_i64]; omega)) (lt_of rfl) ⟨rfl, trivial⟩),
   hR 6 rfl rfl (r_max (k := .i64) (a := u) (b := 0) (lt_of rfl) ⟨rfl, trivial⟩),
   hR 7 rfl rfl (r_min (k := .i64) (a := max u 0) (b := 8) (lt_of rfl) ⟨rfl, trivial⟩),
   hR 8 rfl rfl (r_makeMap 0 f_authn_pair kBool (lt_of rfl))] ?_
 refine T.ret ?_
 exact eRt 4 (.one (.ptr 1 0)) [1, 0] rfl ⟨⟨rfl, (by have e1 : ((3 * (min (max f 0) 2)) + 1 : Int) = 3 * (fOf f) + 1 := (by rfl); have e2 : (min (max u 0) 8 : Int) = (cOf u) := (by rfl); have hE := congr (congrArg (fun (q1 : Int) (q2 : Int) => (.live (.box 98 [dI q1, dI q2, .mref 0]) : HS)) e1) e2; exact Eq.trans (by kernel_rfl) hE)⟩, (ix trivial)⟩
theorem wide_3 : Wide Tryz.prog 3 none := ⟨_, Tryz.underlying3, (fun _ h => by cases h), (fun _ _ h => by cases h)⟩
theorem authn_N (f : Int) (u : Int) (rows : List (authn_pair × Bool)) (hf : 0 ≤ f ∧ f ≤ 2) (hu : 0 ≤ u ∧ u ≤ 8) : Holds Tryz.prog 42 ⟨[pv 0 0], [.box 98 [dI (3 * f + 1), dI u, .mref 1], mpK f_authn_pair kBool rows], vI (3 * f + 1), [.live (.box 98 [dI (3 * f + 1), dI u, .mref 1]), .live (mpK f_authn_pair kBool rows)]⟩ := by
 refine Holds.of Tryz.func42 rfl (N := 9) Tryz.ntmps42 rfl fun w0 B0 S0 U0 => ?_
 show T _ (mkBase 9 2 w0 S0 U0 B0) ⟨[pv 0 0], [.live (.box 98 [dI (3 * f + 1), dI u, .mref 1]), .live (mpK f_authn_pair kBool rows)]⟩ _ _
 refine sR [] ?_
 refine T.seq ?_
 refine sR [] ?_
 refine cF (b := false) rfl ?_
 refine T.skip (nT ?_)
 refine sR [] ?_
 refine T.ret ?_
 exact eRt 2 (.one (dI (3 * f + 1))) [0, 1] rfl (ix (ix trivial))
theorem authn_F (f : Int) (u : Int) (rows : List (authn_pair × Bool)) (hf : 0 ≤ f ∧ f ≤ 2) (hu : 0 ≤ u ∧ u ≤ 8) : Holds Tryz.prog 19 ⟨[pv 0 0], [.box 98 [dI (3 * f + 1), dI u, .mref 1], mpK f_authn_pair kBool rows], vI f, [.live (.box 98 [dI (3 * f + 1), dI u, .mref 1]), .live (mpK f_authn_pair kBool rows)]⟩ := by
 refine Holds.of Tryz.func19 rfl (N := 6) Tryz.ntmps19 rfl fun w0 B0 S0 U0 => ?_
 show T _ (mkBase 6 2 w0 S0 U0 B0) ⟨[pv 0 0], [.live (.box 98 [dI (3 * f + 1), dI u, .mref 1]), .live (mpK f_authn_pair kBool rows)]⟩ _ _
 refine sR [] ?_
 refine sR [hR 1 rfl rfl (rCa (authn_N f u rows ‹_› ‹_›) Tryz.func42 [0, 1] [(.tmp 3, pv 0 0)] 2 2),
   hR 2 rfl rfl (r_bin (u1 := .int .i64 (3 * f + 1)) (u2 := .int .i64 3) (v := .int .i64 ((3 * f + 1) / 3)) (b_quoP (by omega) (by omega) (by rw [IntKind.wrap_i64]; omega)) (lt_of rfl) ⟨rfl, trivial⟩)] ?_
 refine T.ret ?_
 exact eRt 2 (.one (dI ((3 * f + 1) / 3))) [0, 1] (cI (by omega)) (ix (ix trivial))
theorem authn_Clients (f : Int) (u : Int) (rows : List (authn_pair × Bool)) (hf : 0 ≤ f ∧ f ≤ 2) (hu : 0 ≤ u ∧ u ≤ 8) : Holds Tryz.prog 90 ⟨[pv 0 0], [.box 98 [dI (3 * f + 1), dI u, .mref 1], mpK f_authn_pair kBool rows], vI u, [.live (.box 98 [dI (3 * f + 1), dI u, .mref 1]), .live (mpK f_authn_pair kBool rows)]⟩ := by
 refine Holds.of Tryz.func90 rfl (N := 9) Tryz.ntmps90 rfl fun w0 B0 S0 U0 => ?_
 show T _ (mkBase 9 2 w0 S0 U0 B0) ⟨[pv 0 0], [.live (.box 98 [dI (3 * f + 1), dI u, .mref 1]), .live (mpK f_authn_pair kBool rows)]⟩ _ _
 refine sR [] ?_
 refine T.seq ?_
 refine sR [] ?_
 refine cF (b := false) rfl ?_
 refine T.skip (nT ?_)
 refine sR [] ?_
 refine T.ret ?_
 exact eRt 2 (.one (dI u)) [0, 1] rfl (ix (ix trivial))
theorem authn_Primary (f : Int) (u : Int) (rows : List (authn_pair × Bool)) (s : Int) (hf : 0 ≤ f ∧ f ≤ 2) (hu : 0 ≤ u ∧ u ≤ 8) : Holds Tryz.prog 72 ⟨[pv 0 0, vI s], [.box 98 [dI (3 * f + 1), dI u, .mref 1], mpK f_authn_pair kBool rows], vI (primaryA f s), [.live (.box 98 [dI (3 * f + 1), dI u, .mref 1]), .live (mpK f_authn_pair kBool rows)]⟩ := by
 refine Holds.of Tryz.func72 rfl (N := 18) Tryz.ntmps72 rfl fun w0 B0 S0 U0 => ?_
 show T _ (mkBase 18 2 w0 S0 U0 B0) ⟨[pv 0 0, vI s], [.live (.box 98 [dI (3 * f + 1), dI u, .mref 1]), .live (mpK f_authn_pair kBool rows)]⟩ _ _
 refine sR [] ?_
 refine T.seq ?_
 by_cases hq1 : (3 * f + 1) = 0
 ·refine sR [hR 1 rfl rfl (rCa (authn_N f u rows ‹_› ‹_›) Tryz.func42 [0, 1] [(.tmp 5, pv 0 0)] 2 2),
    hN 4 false (dT hq1),
    hN 5 false (dT hq1),
    hP 6 (dT hq1)] ?_
  refine cT (b := true) rfl ?_
  refine sR [] ?_
  refine T.ret (rT ?_)
  exact eRt 4 (.one (dI 0)) [0, 1] (cI (by omega)) (ix (ix trivial))
 refine sR [hR 1 rfl rfl (rCa (authn_N f u rows ‹_› ‹_›) Tryz.func42 [0, 1] [(.tmp 5, pv 0 0)] 2 2),
   hY 4 (dF hq1),
   hY 5 (dF hq1),
   hP 6 (dF hq1)] ?_
 by_cases hq2 : s < 0
 ·refine cT (dT hq2) ?_
  refine sR [] ?_
  refine T.ret (rT ?_)
  exact eRt 4 (.one (dI 0)) [0, 1] (by have e1 : ((primaryA f s) : Int) = 0 := (by (simp [isClient, isReplica, isKnown, primaryA, orgA, *]; done)); have hE := cI e1; exact hE) (ix (ix trivial))
 refine cF (dF hq2) ?_
 refine T.skip (nT ?_)
 refine sR [hR 5 rfl rfl (r_bin (u1 := .int .i64 s) (u2 := .int .i64 (3 * f + 1)) (v := .int .i64 (s % (3 * f + 1))) (b_remP (by omega) (by omega)) (lt_of rfl) trivial)] ?_
 refine T.ret ?_
 exact eRt 4 (.one (dI (s % (3 * f + 1)))) [0, 1] (by have e1 : ((primaryA f s) : Int) = s % (3 * f + 1) := (by (simp [isClient, isReplica, isKnown, primaryA, orgA, *]; done)); have hE := cI e1; exact hE) (ix (ix trivial))
theorem authn_client (f : Int) (u : Int) (rows : List (authn_pair × Bool)) (s : Int) (hf : 0 ≤ f ∧ f ≤ 2) (hu : 0 ≤ u ∧ u ≤ 8) (hs : -9223372036854775808 ≤ s ∧ s ≤ 9223372036854775807) : Holds Tryz.prog 67 ⟨[pv 0 0, vI s], [.box 98 [dI (3 * f + 1), dI u, .mref 1], mpK f_authn_pair kBool rows], vB (decide (isClient u s)), [.live (.box 98 [dI (3 * f + 1), dI u, .mref 1]), .live (mpK f_authn_pair kBool rows)]⟩ := by
 refine Holds.of Tryz.func67 rfl (N := 14) Tryz.ntmps67 rfl fun w0 B0 S0 U0 => ?_
 show T _ (mkBase 14 2 w0 S0 U0 B0) ⟨[pv 0 0, vI s], [.live (.box 98 [dI (3 * f + 1), dI u, .mref 1]), .live (mpK f_authn_pair kBool rows)]⟩ _ _
 refine sR [] ?_
 by_cases hq1 : s ≥ 1000
 ·refine sR [hY 3 (dT hq1),
    hS 4 (oY rfl rfl rfl rfl (lt_of rfl) (dT hq1) (r_bin (u1 := .int .i64 s) (u2 := .int .i64 1000) (v := .int .i64 (s - 1000)) (b_sub (by rw [IntKind.wrap_i64]; omega)) (lt_of rfl) ⟨rfl, trivial⟩)),
    hY 5 (dT hq1),
    hS 6 (oY rfl rfl rfl rfl (lt_of rfl) (dT hq1) (rCa (authn_Clients f u rows ‹_› ‹_›) Tryz.func90 [0, 1] [(.tmp 10, pv 0 0)] 2 2)),
    hY 7 (dT hq1),
    hP 8 (dT hq1)] ?_
  refine T.ret ?_
  exact eRt 4 (.one (dB (decide ((s - 1000) < u)))) [0, 1] (by have e1 : ((decide (isClient u s)) : Bool) = (decide ((s - 1000) < u)) := (by (simp [isClient, isReplica, isKnown, primaryA, orgA, *]; done)); have hE := cB e1; exact hE) (ix (ix trivial))
 refine sR [hN 3 true (dF hq1),
   hN 4 true (dF hq1),
   hN 5 true (dF hq1),
   hN 6 true (dF hq1),
   hN 7 true (dF hq1),
   hP 8 (dF hq1)] ?_
 refine T.ret ?_
 exact eRt 4 (.one (dB false)) [0, 1] (by have e1 : ((decide (isClient u s)) : Bool) = false := (by (simp [isClient, isReplica, isKnown, primaryA, orgA, *]; done)); have hE := cB e1; exact hE) (ix (ix trivial))
theorem authn_Replica (f : Int) (u : Int) (rows : List (authn_pair × Bool)) (s : Int) (hf : 0 ≤ f ∧ f ≤ 2) (hu : 0 ≤ u ∧ u ≤ 8) : Holds Tryz.prog 39 ⟨[pv 0 0, vI s], [.box 98 [dI (3 * f + 1), dI u, .mref 1], mpK f_authn_pair kBool rows], vB (decide (isReplica f s)), [.live (.box 98 [dI (3 * f + 1), dI u, .mref 1]), .live (mpK f_authn_pair kBool rows)]⟩ := by
 refine Holds.of Tryz.func39 rfl (N := 13) Tryz.ntmps39 rfl fun w0 B0 S0 U0 => ?_
 show T _ (mkBase 13 2 w0 S0 U0 B0) ⟨[pv 0 0, vI s], [.live (.box 98 [dI (3 * f + 1), dI u, .mref 1]), .live (mpK f_authn_pair kBool rows)]⟩ _ _
 refine sR [] ?_
 by_cases hq1 : s ≥ 0
 ·refine sR [hY 3 (dT hq1),
    hY 4 (dT hq1),
    hS 5 (oY rfl rfl rfl rfl (lt_of rfl) (dT hq1) (rCa (authn_N f u rows ‹_› ‹_›) Tryz.func42 [0, 1] [(.tmp 9, pv 0 0)] 2 2)),
    hY 6 (dT hq1),
    hP 7 (dT hq1)] ?_
  refine T.ret ?_
  exact eRt 4 (.one (dB (decide (s < (3 * f + 1))))) [0, 1] (by have e1 : ((decide (isReplica f s)) : Bool) = (decide (s < (3 * f + 1))) := (by (simp [isClient, isReplica, isKnown, primaryA, orgA, *]; done)); have hE := cB e1; exact hE) (ix (ix trivial))
 refine sR [hN 3 true (dF hq1),
   hN 4 true (dF hq1),
   hN 5 true (dF hq1),
   hN 6 true (dF hq1),
   hP 7 (dF hq1)] ?_
 refine T.ret ?_
 exact eRt 4 (.one (dB false)) [0, 1] (by have e1 : ((decide (isReplica f s)) : Bool) = false := (by (simp [isClient, isReplica, isKnown, primaryA, orgA, *]; done)); have hE := cB e1; exact hE) (ix (ix trivial))
theorem authn_Known (f : Int) (u : Int) (rows : List (authn_pair × Bool)) (s : Int) (hf : 0 ≤ f ∧ f ≤ 2) (hu : 0 ≤ u ∧ u ≤ 8) (hs : -9223372036854775808 ≤ s ∧ s ≤ 9223372036854775807) : Holds Tryz.prog 49 ⟨[pv 0 0, vI s], [.box 98 [dI (3 * f + 1), dI u, .mref 1], mpK f_authn_pair kBool rows], vB (decide (isKnown f u s)), [.live (.box 98 [dI (3 * f + 1), dI u, .mref 1]), .live (mpK f_authn_pair kBool rows)]⟩ := by
 refine Holds.of Tryz.func49 rfl (N := 13) Tryz.ntmps49 rfl fun w0 B0 S0 U0 => ?_
 show T _ (mkBase 13 2 w0 S0 U0 B0) ⟨[pv 0 0, vI s], [.live (.box 98 [dI (3 * f + 1), dI u, .mref 1]), .live (mpK f_authn_pair kBool rows)]⟩ _ _
 refine sR [] ?_
 by_cases hq1 : isReplica f s
 ·refine sR [hR 2 rfl rfl (rCa (authn_Replica f u rows s ‹_› ‹_›) Tryz.func39 [0, 1] [(.tmp 5, pv 0 0), (.tmp 6, vI s)] 2 2),
    hN 4 false (dT hq1),
    hN 5 false (dT hq1),
    hN 6 false (dT hq1),
    hP 7 (dT hq1)] ?_
  refine T.ret ?_
  exact eRt 4 (.one (dB true)) [0, 1] (by have e1 : ((decide (isKnown f u s)) : Bool) = true := (by (simp [isKnown, orgA, *]; done)); have hE := cB e1; exact hE) (ix (ix trivial))
 refine sR [hR 2 rfl rfl (rCa (authn_Replica f u rows s ‹_› ‹_›) Tryz.func39 [0, 1] [(.tmp 5, pv 0 0), (.tmp 6, vI s)] 2 2),
   hY 4 (dF hq1),
   hY 5 (dF hq1),
   hS 6 (oY rfl rfl rfl rfl (lt_of rfl) (dF hq1) (rCa (authn_client f u rows s ‹_› ‹_› ‹_›) Tryz.func67 [0, 1] [(.tmp 9, pv 0 0), (.tmp 10, vI s)] 2 2)),
   hP 7 (dF hq1)] ?_
 refine T.ret ?_
 exact eRt 4 (.one (dB (decide (isClient u s)))) [0, 1] (by have e1 : ((decide (isKnown f u s)) : Bool) = (decide (isClient u s)) := (by (simp [isKnown, orgA, *]; done)); have hE := cB e1; exact hE) (ix (ix trivial))
theorem iat_35 : Tryz.prog.info? 35 = some Tryz.t35 := by kernel_rfl
theorem zero_35 : Zero Tryz.prog 35 [.int .i64 0, .slice none 0 0] := ⟨_, _, iat_35, rfl, rfl⟩
theorem iat_33 : Tryz.prog.info? 33 = some Tryz.t33 := by kernel_rfl
theorem cells_35 : Cells Tryz.prog 35 2 := ⟨_, iat_35, rfl⟩
theorem wide_35 : Wide Tryz.prog 35 (some 2) := ⟨_, _, Tryz.underlying35, .inl ⟨_, rfl⟩, iat_35, rfl⟩
section
variable (f : Int) (u : Int) (s : Int) (tb : Bool) (nb : Bool) (b : List UInt8)
end
end Go.Proofs.YtalapplihdmenaaGreat.Q
