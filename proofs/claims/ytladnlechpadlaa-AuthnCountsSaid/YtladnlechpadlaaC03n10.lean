import Derived.Test.YtladnlechpadlaaC03n9
namespace Go.Proofs.Ytladnlechpadlaa.Q
set_option linter.unusedVariables false
set_option linter.unusedSimpArgs false
set_option maxRecDepth 100000

/-! ### Signers, one by one -/

def accR (f : Int) (l : List Int) : Nat → List Int
  | 0 => []
  | k + 1 => if isReplica f (l.getD k 0) ∧ ¬ l.getD k 0 ∈ accR f l k then accR f l k ++ [l.getD k 0] else accR f l k
theorem acc_len (f : Int) (l : List Int) : ∀ k, (accR f l k).length ≤ k
  | 0 => Nat.le_refl _
  | k + 1 => by
    have := acc_len f l k
    rw [accR]; split
    · rw [List.length_append, List.length_singleton]; omega
    · omega
theorem acc_nodup (f : Int) (l : List Int) : ∀ k, (accR f l k).Nodup
  | 0 => List.nodup_nil
  | k + 1 => by
    have ih := acc_nodup f l k
    rw [accR]; split
    · rename_i h
      rw [List.nodup_append]
      exact ⟨ih, by simp, fun a ha b hb => by rw [List.mem_singleton] at hb; subst hb; exact fun e => h.2 (e ▸ ha)⟩
    · exact ih
theorem acc_mem {f : Int} {l : List Int} {s : Int} : ∀ {k : Nat}, (s ∈ accR f l k ↔ isReplica f s ∧ ∃ m, m < k ∧ l.getD m 0 = s)
  | 0 => ⟨(fun h => by cases h), fun ⟨_, m, h, _⟩ => absurd h (Nat.not_lt_zero _)⟩
  | k + 1 => by
    rw [accR]; split
    · rename_i h
      rw [List.mem_append, List.mem_singleton, acc_mem (k := k)]
      exact ⟨fun w => w.elim (fun ⟨h0, m, h1, h2⟩ => ⟨h0, m, by omega, h2⟩) fun w => ⟨w ▸ h.1, k, by omega, w.symm⟩, fun ⟨h0, m, h1, h2⟩ => by
        rcases Nat.lt_or_ge m k with q | q
        · exact .inl ⟨h0, m, q, h2⟩
        · exact .inr (by rw [← h2, show m = k by omega])⟩
    · rename_i h
      rw [acc_mem (k := k)]
      exact ⟨fun ⟨h0, m, h1, h2⟩ => ⟨h0, m, by omega, h2⟩, fun ⟨h0, m, h1, h2⟩ => by
        rcases Nat.lt_or_ge m k with q | q
        · exact ⟨h0, m, q, h2⟩
        · have e : l.getD k 0 = s := by rw [← h2, show m = k by omega]
          have := Classical.not_not.1 fun w => h ⟨e ▸ h0, w⟩
          rw [e] at this
          obtain ⟨_, h3⟩ := acc_mem.1 this
          exact ⟨h0, h3⟩⟩
/-- Any row without doubles that holds just the replicas among signers is as long. -/
theorem cnt_of_mem {f : Int} (hf : 0 ≤ f ∧ f ≤ 2) {l r : List Int} (h1 : r.Nodup) (hm : ∀ s, s ∈ r ↔ isReplica f s ∧ s ∈ l) : r.length = cntR f l := by
  have h2 : (((List.range (3 * f + 1).toNat).filter fun (i : Nat) => decide (((i : Nat) : Int) ∈ l)).map Int.ofNat).Nodup := List.pairwise_map.2 ((List.nodup_range.sublist List.filter_sublist).imp fun hab e => hab (Int.ofNat.inj e))
  have hm2 : ∀ s, s ∈ r ↔ s ∈ ((List.range (3 * f + 1).toNat).filter fun (i : Nat) => decide (((i : Nat) : Int) ∈ l)).map Int.ofNat := fun s => by
    rw [hm, List.mem_map]
    constructor
    · rintro ⟨h4, h3⟩
      refine ⟨s.toNat, List.mem_filter.2 ⟨List.mem_range.2 (by have := h4.1; have := h4.2; omega), decide_eq_true ?_⟩, ?_⟩
      · rw [show ((s.toNat : Nat) : Int) = s by have := h4.1; omega]; exact h3
      · show ((s.toNat : Nat) : Int) = s; have := h4.1; omega
    · rintro ⟨i, h3, rfl⟩
      obtain ⟨h4, h5⟩ := List.mem_filter.1 h3
      have h4 := List.mem_range.1 h4
      exact ⟨⟨Int.natCast_nonneg _, by show ((i : Nat) : Int) < _; omega⟩, by simpa using h5⟩
  have := ((List.perm_ext_iff_of_nodup h1 h2).2 hm2).length_eq
  rw [this, List.length_map]; rfl
theorem acc_cnt {f : Int} (hf : 0 ≤ f ∧ f ≤ 2) (l : List Int) : (accR f l l.length).length = cntR f l := cnt_of_mem hf (acc_nodup f l _) fun s => by
  rw [acc_mem]
  refine and_congr Iff.rfl ⟨fun ⟨m, h1, h2⟩ => h2 ▸ getD_mem h1, fun h => ?_⟩
  obtain ⟨m, hm, rfl⟩ := List.getElem_of_mem h
  exact ⟨m, hm, getI hm⟩
theorem acc_yes {f : Int} {l : List Int} {k : Nat} (h1 : isReplica f (l.getD k 0)) (h2 : ¬ l.getD k 0 ∈ accR f l k) : accR f l (k + 1) = accR f l k ++ [l.getD k 0] := if_pos ⟨h1, h2⟩
theorem acc_no1 {f : Int} {l : List Int} {k : Nat} (h1 : ¬ isReplica f (l.getD k 0)) : accR f l (k + 1) = accR f l k := if_neg fun w => h1 w.1
theorem acc_no2 {f : Int} {l : List Int} {k : Nat} (h1 : l.getD k 0 ∈ accR f l k) : accR f l (k + 1) = accR f l k := if_neg fun w => w.2 h1
theorem memI_get {l : List Int} {k : Nat} {s : Int} (hk : k < l.length) (h : l.getD k 0 = s) : s ∈ l := h ▸ getD_mem hk
theorem memI_not {l : List Int} {k : Nat} {s : Int} (hb : ∀ j, j < k → ¬ l.getD j 0 = s) (hk : l.length ≤ k) : ¬ s ∈ l := fun h => by
  obtain ⟨m, hm, e⟩ := List.getElem_of_mem h
  exact hb m (by omega) (by rw [getI hm]; exact e)

/-! ### Envelopes, each signer once -/

def dup1 (l : List api_Envelope) (k : Nat) : Prop := ∃ j, j < k ∧ (l.getD j z_api_Envelope).f_Signer = (l.getD k z_api_Envelope).f_Signer
instance (l : List api_Envelope) (k : Nat) : Decidable (dup1 l k) := inferInstanceAs (Decidable (∃ j, j < k ∧ _))
def dst1 (f : Int) (l : List api_Envelope) (k : Nat) : Int := if ¬ isReplica f (l.getD k z_api_Envelope).f_Signer then 30 else if dup1 l k then 33 else 0
def dstR (f : Int) (l : List api_Envelope) : Nat → Int
  | 0 => 0
  | n + 1 => if dstR f l n ≠ 0 then dstR f l n else dst1 f l n
def dstE (f : Int) (l : List api_Envelope) : Int := dstR f l l.length
section
variable {f : Int} {l : List api_Envelope} {k : Nat}
theorem dstR_0 : ∀ {n : Nat}, (∀ j, j < n → dst1 f l j = 0) → dstR f l n = 0
  | 0, _ => rfl
  | n + 1, h => by rw [dstR, dstR_0 fun j hj => h j (by omega), if_neg (by simp)]; exact h n (by omega)
theorem dst_0 (hb : ∀ j, j < k → dst1 f l j = 0) (hk : l.length ≤ k) : dstE f l = 0 := dstR_0 fun j hj => hb j (by omega)
theorem dst_at (hb : ∀ j, j < k → dst1 f l j = 0) (hk : k < l.length) (h : dst1 f l k ≠ 0) : dstE f l = dst1 f l k := by
  have : ∀ n, k < n → dstR f l n = dst1 f l k := by
    intro n
    induction n with
    | zero => intro w; omega
    | succ n ih =>
      intro w
      rw [dstR]
      by_cases e : k = n
      · subst e; rw [dstR_0 hb, if_neg (by simp)]
      · rw [ih (by omega), if_pos h]
  exact this _ hk
theorem dst_no (h : ¬ isReplica f (l.getD k z_api_Envelope).f_Signer) : dst1 f l k = 30 := if_pos h
theorem dst_dup (h : isReplica f (l.getD k z_api_Envelope).f_Signer) (h2 : dup1 l k) : dst1 f l k = 33 := (if_neg (fun w => w h)).trans (if_pos h2)
theorem dst_ok (h : isReplica f (l.getD k z_api_Envelope).f_Signer) (h2 : ¬ dup1 l k) : dst1 f l k = 0 := (if_neg (fun w => w h)).trans (if_neg h2)
theorem dst_rep (h : dst1 f l k = 0) : isReplica f (l.getD k z_api_Envelope).f_Signer ∧ ¬ dup1 l k := by
  unfold dst1 at h
  split at h
  · cases h
  · rename_i w
    split at h
    · cases h
    · rename_i w2; exact ⟨Classical.not_not.1 w, w2⟩
theorem dstR_ok : ∀ {n : Nat}, dstR f l n = 0 → ∀ j, j < n → dst1 f l j = 0
  | 0, _, j, hj => absurd hj (Nat.not_lt_zero _)
  | n + 1, h, j, hj => by
    rw [dstR] at h
    split at h
    · rename_i w; exact absurd h w
    · rename_i w
      rcases Nat.lt_or_ge j n with q | q
      · exact dstR_ok (Classical.not_not.1 w) j q
      · rw [show j = n by omega]; exact h
def sgn (l : List api_Envelope) (k : Nat) : List Int := (l.take k).map (·.f_Signer)
theorem sgn_succ (hk : k < l.length) : sgn l (k + 1) = sgn l k ++ [(l.getD k z_api_Envelope).f_Signer] := by unfold sgn; rw [tk_succ (z := z_api_Envelope) hk, List.map_append]; rfl
theorem sgn_len (hk : k ≤ l.length) : (sgn l k).length = k := by unfold sgn; rw [List.length_map, List.length_take]; omega
theorem sgn_dup (hk : k < l.length) : (l.getD k z_api_Envelope).f_Signer ∈ sgn l k ↔ dup1 l k := by
  unfold sgn dup1
  rw [List.mem_map]
  constructor
  · rintro ⟨e, he, h⟩
    obtain ⟨j, hj, rfl⟩ := List.getElem_of_mem he
    have hj2 : j < k := by rw [List.length_take] at hj; omega
    refine ⟨j, hj2, ?_⟩
    rw [← h, List.getElem_take, List.getD_eq_getElem?_getD, List.getElem?_eq_getElem (by omega)]; rfl
  · rintro ⟨j, hj, h⟩
    refine ⟨l.getD j z_api_Envelope, ?_, h⟩
    rw [List.getD_eq_getElem?_getD, List.getElem?_eq_getElem (by omega)]
    exact List.mem_take_iff_getElem.2 ⟨j, by omega, rfl⟩
/-- The code's bits. -/
def seenB (l : List api_Envelope) : Nat → Nat
  | 0 => 0
  | k + 1 => seenB l k ||| 2 ^ (l.getD k z_api_Envelope).f_Signer.toNat
theorem seen_bit {m : Nat} : ∀ {k : Nat}, (seenB l k).testBit m = true ↔ ∃ j, j < k ∧ (l.getD j z_api_Envelope).f_Signer.toNat = m
  | 0 => ⟨(fun h => by simp [seenB] at h), fun ⟨j, h, _⟩ => absurd h (Nat.not_lt_zero _)⟩
  | k + 1 => by
    rw [seenB, Nat.testBit_or, Bool.or_eq_true, seen_bit (k := k), Nat.testBit_two_pow, decide_eq_true_eq]
    exact ⟨fun w => w.elim (fun ⟨j, h1, h2⟩ => ⟨j, by omega, h2⟩) fun w => ⟨k, by omega, w⟩, fun ⟨j, h1, h2⟩ => by
      rcases Nat.lt_or_ge j k with q | q
      · exact .inl ⟨j, q, h2⟩
      · exact .inr (by rw [← h2, show j = k by omega])⟩
theorem seen_lt (hf : f ≤ 2) : ∀ {k : Nat}, (∀ j, j < k → dst1 f l j = 0) → seenB l k < 128
  | 0, _ => (show 0 < 128 by decide)
  | k + 1, h => by
    have h1 := (dst_rep (h k (by omega))).1
    have h2 : (l.getD k z_api_Envelope).f_Signer.toNat < 7 := by have := h1.1; have := h1.2; omega
    exact Nat.or_lt_two_pow (n := 7) (seen_lt hf fun j hj => h j (by omega)) (Nat.pow_lt_pow_right (by decide) h2)
theorem seen_dup (hb : ∀ j, j < k → dst1 f l j = 0) (h : isReplica f (l.getD k z_api_Envelope).f_Signer) : (((seenB l k / 2 ^ (l.getD k z_api_Envelope).f_Signer.toNat % 2 : Nat) : Int) = 1) ↔ dup1 l k := by
  have e : seenB l k / 2 ^ (l.getD k z_api_Envelope).f_Signer.toNat % 2 = 1 ↔ (seenB l k).testBit (l.getD k z_api_Envelope).f_Signer.toNat = true := by rw [Nat.testBit_eq_decide_div_mod_eq, decide_eq_true_eq]
  have e2 : (((seenB l k / 2 ^ (l.getD k z_api_Envelope).f_Signer.toNat % 2 : Nat) : Int) = 1) ↔ seenB l k / 2 ^ (l.getD k z_api_Envelope).f_Signer.toNat % 2 = 1 := by omega
  rw [e2, e, seen_bit]
  unfold dup1
  refine exists_congr fun j => and_congr_right fun hj => ?_
  have h1 := (dst_rep (hb j hj)).1.1
  have h2 := h.1
  omega
end
theorem shl_wrap {n : Nat} (h : n ≤ 6) : IntKind.u64.wrap ((1 * 2 ^ n : Nat) : Int) = ((1 * 2 ^ n : Nat) : Int) := by
  have : 2 ^ n ≤ 2 ^ 6 := Nat.pow_le_pow_right (by decide) h
  rw [IntKind.wrap_u64]; omega
theorem shl_lt {n : Nat} (h : n ≤ 6) : 1 * 2 ^ n < 18446744073709551616 := by
  have : 2 ^ n ≤ 2 ^ 6 := Nat.pow_le_pow_right (by decide) h
  omega
section
variable {P : Program}
theorem b_and1 {t : TypeId} {a : Nat} (ha : a < 18446744073709551616) : BinR P .and t (.int .u64 (a : Int)) (.int .u64 1) (.int .u64 ((a % 2 : Nat) : Int)) := bin_of (.inl fun _ => by simp) (.inl (by simp)) fun w => by
  have e1 : (BitVec.ofInt 64 (a : Int)).toNat = a := by rw [BitVec.ofInt_natCast, BitVec.toNat_ofNat]; exact Nat.mod_eq_of_lt ha
  have h : (BitVec.ofInt 64 (a : Int) &&& BitVec.ofInt 64 (1 : Int)).toNat = a % 2 := by
    rw [BitVec.toNat_and, e1, show (BitVec.ofInt 64 (1 : Int)).toNat = 1 from rfl, Nat.and_one_is_mod]
  have hw : IntKind.u64.wrap ((a % 2 : Nat) : Int) = ((a % 2 : Nat) : Int) := by rw [IntKind.wrap_u64]; omega
  show (Op.intBits .and .u64 a 1).run P w = _
  unfold Op.intBits
  simp only [IntKind.bits] at *
  show Result.ok (Value.int .u64 (IntKind.u64.wrap ((BitVec.ofInt 64 (a : Int) &&& BitVec.ofInt 64 (1 : Int)).toNat : Int))) w = _
  rw [h, hw]
end

/-! ### What signers have in common -/

def mkE (s : Int) : api_Envelope := ⟨s, []⟩
theorem dst_cnt {f : Int} (hf : 0 ≤ f ∧ f ≤ 2) {l : List Int} (h : dstE f (l.map mkE) = 0) : cntR f l = l.length := by
  have hs : ∀ j, j < l.length → ((l.map mkE).getD j z_api_Envelope).f_Signer = l.getD j 0 := fun j hj => by
    rw [List.getD_eq_getElem?_getD, List.getElem?_map, List.getElem?_eq_getElem hj, getI hj]; rfl
  have h1 := dstR_ok h
  rw [List.length_map] at h1
  refine (cnt_of_mem hf (List.pairwise_iff_getElem.2 fun i j hi hj hij e => ?_) fun s => ⟨fun hm => ⟨?_, hm⟩, fun w => w.2⟩).symm
  · refine (dst_rep (h1 j hj)).2 ⟨i, hij, ?_⟩
    rw [hs i hi, hs j hj, getI hi, getI hj]; exact e
  · obtain ⟨j, hj, rfl⟩ := List.getElem_of_mem hm
    have := (dst_rep (h1 j hj)).1
    rwa [hs j hj, getI hj] at this
def meetL (l m : List Int) (k : Nat) : List Int := (l.take k).filter fun s => decide (s ∈ m)
theorem meet_yes {l m : List Int} {k : Nat} (hk : k < l.length) (h : l.getD k 0 ∈ m) : meetL l m (k + 1) = meetL l m k ++ [l.getD k 0] := by
  unfold meetL
  rw [tk_succ (z := 0) hk, List.filter_append, List.filter_cons_of_pos (by simpa using h), List.filter_nil]
theorem meet_no {l m : List Int} {k : Nat} (hk : k < l.length) (h : ¬ l.getD k 0 ∈ m) : meetL l m (k + 1) = meetL l m k := by
  unfold meetL
  rw [tk_succ (z := 0) hk, List.filter_append, List.filter_cons_of_neg (by simpa using h), List.filter_nil, List.append_nil]
theorem meet_len (l m : List Int) (k : Nat) : (meetL l m k).length ≤ l.length := Nat.le_trans (List.length_filter_le _ _) (by rw [List.length_take]; omega)
theorem both_len {α : Type} (p q : α → Bool) : ∀ l : List α, (l.filter p).length + (l.filter q).length ≤ l.length + (l.filter fun a => p a && q a).length
  | [] => Nat.le_refl _
  | a :: l => by
    have ih := both_len p q l
    cases hp : p a <;> cases hq : q a <;> simp [List.filter_cons, hp, hq] <;> omega
theorem meetsR {f : Int} (hf : 0 ≤ f ∧ f ≤ 2) {l m : List Int} {k : Nat} (hk : l.length ≤ k) (h1 : ¬ ((cntR f l : Nat) : Int) < 2 * f + 1) (h2 : ¬ ((cntR f m : Nat) : Int) < 2 * f + 1) : ((cntR f (meetL l m k) : Nat) : Int) ≥ f + 1 := by
  have h := both_len (fun (i : Nat) => decide (((i : Nat) : Int) ∈ l)) (fun (i : Nat) => decide (((i : Nat) : Int) ∈ m)) (List.range (3 * f + 1).toNat)
  have e : ((List.range (3 * f + 1).toNat).filter fun a => decide (((a : Nat) : Int) ∈ l) && decide (((a : Nat) : Int) ∈ m)).length = cntR f (meetL l m k) := by
    unfold cntR meetL
    rw [List.take_of_length_le hk]
    congr 2
    funext a
    rw [← Bool.decide_and, decide_eq_decide, List.mem_filter, decide_eq_true_eq]
  rw [e, List.length_range] at h
  unfold cntR at h1 h2
  omega
def trnL (f v : Int) (k : Nat) : List Int := (List.range k).map fun (i : Nat) => primaryA f (v + ((i : Nat) : Int))
theorem trn_succ (f v : Int) (k : Nat) : trnL f v (k + 1) = trnL f v k ++ [primaryA f (v + ((k : Nat) : Int))] := by unfold trnL; rw [List.range_succ, List.map_append]; rfl
theorem trn_len (f v : Int) (k : Nat) : (trnL f v k).length = k := by unfold trnL; rw [List.length_map, List.length_range]
/-- Each leads once. -/
theorem turns {f v : Int} (hf : 0 ≤ f ∧ f ≤ 2) (hv : 0 ≤ v) {k : Nat} (hk : ¬ ((k : Nat) : Int) < 3 * f + 1) : ((cntR f (trnL f v k) : Nat) : Int) = 3 * f + 1 := by
  unfold cntR
  rw [List.filter_eq_self.2 fun i hi => decide_eq_true ?_, List.length_range]
  · omega
  · have hi := List.mem_range.1 hi
    unfold trnL
    rw [List.mem_map]
    have hN : (0 : Int) < 3 * f + 1 := by omega
    have h1 := Int.emod_nonneg (((i : Nat) : Int) - v) (b := 3 * f + 1) (by omega)
    have h2 := Int.emod_lt_of_pos (((i : Nat) : Int) - v) hN
    refine ⟨((((i : Nat) : Int) - v) % (3 * f + 1)).toNat, List.mem_range.2 (by omega), ?_⟩
    rw [Int.toNat_of_nonneg h1, primaryA, if_neg (by omega), Int.add_emod_emod v (((i : Nat) : Int) - v) (3 * f + 1)]
    rw [show v + (((i : Nat) : Int) - v) = ((i : Nat) : Int) by omega]
    exact Int.emod_eq_of_lt (by omega) (by omega)
end Go.Proofs.Ytladnlechpadlaa.Q
namespace Go.Proofs.Ytladnlechpadlaa.Q
open Go Go.RowKit
set_option linter.unusedVariables false
set_option linter.unusedSimpArgs false
set_option maxRecDepth 100000
set_option maxHeartbeats 4000000
-- quaestor/quaestorref03.in
theorem ref03_in (s : Int) (tx : Bool) (nx : Bool) (x : List Int) (hx : x.length ≤ 1000000) : Holds Try.prog 49 ⟨[dv (.int .i64 s), slV tx nx (kInt .i64) x], [], dv (.bool (decide (s ∈ x))), []⟩ := by
 refine Holds.of Try.func49 rfl (N := 18) Try.ntmps49 rfl fun w0 B0 S0 U0 => ?_
 show T _ (mkBase 18 0 w0 S0 U0 B0) ⟨[dv (.int .i64 s), slV tx nx (kInt .i64) x], []⟩ _ _
 refine T.seq ?_
 refine xR [] (by kernel_rfl) (by kernel_rfl) ?_
 refine nT ?_
 refine T.seq ?_
 refine T.seq ?_
 refine xR [] (by kernel_rfl) (by kernel_rfl) ?_
 refine nT ?_
 refine T.block ?_
 refine T.loop (ι := Nat) (fun (k : Nat) => ⟨[dv (.int .i64 s), slV tx nx (kInt .i64) x, aa, aa, dv (.bool false), dv (.int .i64 ((k : Nat) : Int))], []⟩) (fun (k : Nat) => (k ≤ x.length) ∧ (∀ j, j < k → ¬ x.getD j 0 = s)) (fun (k : Nat) => x.length - k) (0) ⟨(Nat.zero_le _), (fun j hj => absurd hj (Nat.not_lt_zero _))⟩ (fun _ _ hG => Gs.into2 (s' := ⟨[dv (.int .i64 s), slV tx nx (kInt .i64) x, aa, aa, dv (.bool false), dv (.int .i64 0)], []⟩) [] (bm 6 51) (t1 := [dv (.int .i64 s), slV tx nx (kInt .i64) x, aa, aa, dv (.bool false), dv (.int .i64 0)]) (h1 := []) rfl rfl (by kernel_rfl) (by kernel_rfl) (by kernel_rfl) (by kernel_rfl) (by kernel_rfl) (by kernel_rfl) (by kernel_rfl) (by kernel_rfl) (by kernel_rfl) (by kernel_rfl) (by kernel_rfl) hG) ?_
 rintro k ⟨hk, hb⟩
 show T _ _ ⟨[dv (.int .i64 s), slV tx nx (kInt .i64) x, aa, aa, dv (.bool false), dv (.int .i64 ((k : Nat) : Int))], []⟩ _ _
 replace hk : k ≤ x.length := hk
 replace hb : ∀ j, j < k → ¬ x.getD j 0 = s := hb
 refine T.seq ?_
 refine T.seq ?_
 refine xR [] (by kernel_rfl) (by kernel_rfl) ?_
 refine nT ?_
 by_cases hq1 : ((k : Nat) : Int) < ((x.length : Nat) : Int)
 ·refine T.condT (by kernel_rfl) (decide_eq_true hq1) ?_
  refine T.skip ?_
  refine nT ?_
  refine T.seq ?_
  refine T.block ?_
  refine T.seq ?_
  refine xR [hR 2 rfl rfl (q_index tx nx (kInt .i64) x k (k := .i64) (i := ((k : Nat) : Int)) Try.underlying50 iat_3 rfl rfl (by first | assumption | omega | (unfold maxLen; omega) | (simp [maxLen, -List.getD_eq_getElem?_getD] <;> omega) | decide) (lt_of rfl) trivial)] (by kernel_rfl) (by kernel_rfl) ?_
  refine nT ?_
  by_cases hq2 : (x.getD k 0) = s
  ·refine T.condT (by kernel_rfl) (decide_eq_true hq2) ?_
   refine T.seq ?_
   refine xR [] (by kernel_rfl) (by kernel_rfl) ?_
   refine nT ?_
   refine T.ret ?_
   refine rB ?_
   refine rT ?_
   refine rT ?_
   refine rB ?_
   refine rT ?_
   exact tE (.inl rfl) [.t 4 (.one (.d (.val (.bool true))))] ⟨⟨rfl, by kernel_rfl⟩, trivial⟩ [] (by have e1 : ((decide (s ∈ x)) : Bool) = true := (by first | exact decide_eq_true (memI_get (k := k) (by omega) (by assumption)) | exact (decide_eq_true (memI_get (k := k) (by omega) (by assumption))).symm | exact decide_eq_false (memI_not hb (by omega)) | exact (decide_eq_false (memI_not hb (by omega))).symm); have hE := congrArg (fun (q1 : Bool) => (dv (.bool q1) : AV)) e1; exact hE) rfl rfl rfl rfl rfl trivial
  ·refine T.condF (by kernel_rfl) (decide_eq_false hq2) ?_
   refine T.skip ?_
   refine nB ?_
   refine nT ?_
   refine xR [hR 1 rfl rfl (r_bin (u1 := .int .i64 ((k : Nat) : Int)) (u2 := .int .i64 1) (v := .int .i64 ((k + 1 : Nat) : Int)) (b_add (by rw [IntKind.wrap_i64]; omega)) (lt_of rfl) ⟨rfl, trivial⟩)] (by kernel_rfl) (by kernel_rfl) ?_
   refine nL (k + 1) ⟨(show (k + 1) ≤ x.length from (by omega)), (show ∀ j, j < (k + 1) → ¬ x.getD j 0 = s from (all_succ hb (by assumption)))⟩ (show (x.length - (k + 1) : Nat) < x.length - k from (by omega)) (fun _ _ hG => Gs.into2 (s' := ⟨[dv (.int .i64 s), slV tx nx (kInt .i64) x, aa, aa, dv (.bool false), dv (.int .i64 ((k + 1 : Nat) : Int))], []⟩) [] (bm 6 51) (t1 := [dv (.int .i64 s), slV tx nx (kInt .i64) x, aa, aa, dv (.bool false), dv (.int .i64 ((k + 1 : Nat) : Int))]) (h1 := []) rfl rfl (by kernel_rfl) (by kernel_rfl) (by kernel_rfl) (by kernel_rfl) (by kernel_rfl) (by kernel_rfl) (by kernel_rfl) (by kernel_rfl) (by kernel_rfl) (by kernel_rfl) (by kernel_rfl) hG)
 ·refine T.condF (by kernel_rfl) (decide_eq_false hq1) ?_
  refine T.exit ?_
  refine xT ?_
  refine xT ?_
  refine xH ?_
  refine nT ?_
  refine T.seq ?_
  refine xR [] (by kernel_rfl) (by kernel_rfl) ?_
  refine nT ?_
  refine T.ret ?_
  exact tE (.inl rfl) [.t 4 (.one (.d (.val (.bool false))))] ⟨⟨rfl, by kernel_rfl⟩, trivial⟩ [] (by have e1 : ((decide (s ∈ x)) : Bool) = false := (by first | exact decide_eq_true (memI_get (k := k) (by omega) (by assumption)) | exact (decide_eq_true (memI_get (k := k) (by omega) (by assumption))).symm | exact decide_eq_false (memI_not hb (by omega)) | exact (decide_eq_false (memI_not hb (by omega))).symm); have hE := congrArg (fun (q1 : Bool) => (dv (.bool q1) : AV)) e1; exact hE) rfl rfl rfl rfl rfl trivial
end Go.Proofs.Ytladnlechpadlaa.Q
namespace Go.Proofs.Ytladnlechpadlaa.Q
open Go Go.RowKit
set_option linter.unusedVariables false
set_option linter.unusedSimpArgs false
set_option maxRecDepth 100000
set_option maxHeartbeats 4000000
abbrev z7c15_0 (l0 : List api_Envelope) : HS := .live (arrK 32 (k_api_Envelope false) l0)
abbrev z7c15_1 (k : Nat) : AV := dv (.int .i64 ((k + 1 : Nat) : Int))
abbrev z7c15_2 (f : Int) (tx : Bool) (nx : Bool) (x : List Int) (k : Nat) : List AV := [pv 0 0, slV tx nx (kInt .i64) x, aa, aa, aa, ownV 2 (kInt .i64) 0 (accR f x (k + 1)).length, (z7c15_1 k)]
-- (*quaestor/quaestorref03.Authority).Count
theorem ref03_Count (f : Int) (u : Int) (l0 : List api_Envelope) (tx : Bool) (nx : Bool) (x : List Int) (hf : 0 ≤ f ∧ f ≤ 2) (hu : 0 ≤ u ∧ u ≤ 8) (hx : x.length ≤ 1000000) : Holds Try.prog 28 ⟨[pv 0 0, slV tx nx (kInt .i64) x], [.box 48 [.d (.val (.bool true)), .d (.val (.int .i64 f)), .d (.val (.int .i64 u)), .own 1 (k_api_Envelope false).sz 0 l0.length], arrK 32 (k_api_Envelope false) l0], dv (.int .i64 ((cntR f x : Nat) : Int)), [.live (.box 48 [.d (.val (.bool true)), .d (.val (.int .i64 f)), .d (.val (.int .i64 u)), .own 1 (k_api_Envelope false).sz 0 l0.length]), .live (arrK 32 (k_api_Envelope false) l0)]⟩ := by
 refine Holds.of Try.func28 rfl (N := 37) Try.ntmps28 rfl fun w0 B0 S0 U0 => ?_
 show T _ (mkBase 37 2 w0 S0 U0 B0) ⟨[pv 0 0, slV tx nx (kInt .i64) x], [.live (.box 48 [.d (.val (.bool true)), .d (.val (.int .i64 f)), .d (.val (.int .i64 u)), .own 1 (k_api_Envelope false).sz 0 l0.length]), (z7c15_0 l0)]⟩ _ _
 refine T.seq ?_
 refine xR [] (by kernel_rfl) (by kernel_rfl) ?_
 refine nT ?_
 refine T.seq ?_
 refine xR [] (by kernel_rfl) (by kernel_rfl) ?_
 refine nT ?_
 refine T.seq ?_
 refine T.seq ?_
 refine xR [] (by kernel_rfl) (by kernel_rfl) ?_
 refine nT ?_
 refine T.block ?_
 refine T.turn (s' := ⟨[pv 0 0, slV tx nx (kInt .i64) x, aa, aa, dv (.int .i64 0), dv (.slice none 0 0), dv (.int .i64 0)], [.live (.box 48 [.d (.val (.bool true)), .d (.val (.int .i64 f)), .d (.val (.int .i64 u)), .own 1 (k_api_Envelope false).sz 0 l0.length]), (z7c15_0 l0)]⟩) (fun _ _ hG => Gs.norm (by kernel_rfl) hG) ?_
 refine T.turn (s' := ⟨[pv 0 0, slV tx nx (kInt .i64) x, aa, aa, dv (.int .i64 0), ownV 2 (kInt .i64) 0 0, dv (.int .i64 0)], [.live (.box 48 [.d (.val (.bool true)), .d (.val (.int .i64 f)), .d (.val (.int .i64 u)), .own 1 (k_api_Envelope false).sz 0 l0.length]), (z7c15_0 l0), .live (arrK 3 (kInt .i64) ([] : List Int))]⟩) (fun _ _ hG => Gs.absent 2 5 3 (kInt .i64) rfl rfl hG) ?_
 refine T.loop (ι := Nat) (fun (k : Nat) => ⟨[pv 0 0, slV tx nx (kInt .i64) x, aa, aa, aa, ownV 2 (kInt .i64) 0 (accR f x k).length, dv (.int .i64 ((k : Nat) : Int))], [.live (.box 48 [.d (.val (.bool true)), .d (.val (.int .i64 f)), .d (.val (.int .i64 u)), .own 1 (k_api_Envelope false).sz 0 l0.length]), (z7c15_0 l0), .live (arrK 3 (kInt .i64) (accR f x k))]⟩) (fun (k : Nat) => (k ≤ x.length)) (fun (k : Nat) => x.length - k) (0) (Nat.zero_le _) (fun _ _ hG => Gs.into2 (s' := ⟨[pv 0 0, slV tx nx (kInt .i64) x, aa, aa, aa, ownV 2 (kInt .i64) 0 (accR f x 0).length, dv (.int .i64 0)], [.live (.box 48 [.d (.val (.bool true)), .d (.val (.int .i64 f)), .d (.val (.int .i64 u)), .own 1 (k_api_Envelope false).sz 0 l0.length]), (z7c15_0 l0), .live (arrK 3 (kInt .i64) (accR f x 0))]⟩) [0, 1, 2] (bm 7 99) (t1 := [pv 0 0, slV tx nx (kInt .i64) x, aa, aa, aa, ownV 2 (kInt .i64) 0 (accR f x 0).length, dv (.int .i64 0)]) (t2 := [pv 0 0, slV tx nx (kInt .i64) x, aa, aa, aa, ownV 2 (kInt .i64) 0 0, dv (.int .i64 0)]) (h1 := [.live (.box 48 [.d (.val (.bool true)), .d (.val (.int .i64 f)), .d (.val (.int .i64 u)), .own 1 (k_api_Envelope false).sz 0 l0.length]), (z7c15_0 l0), .live (arrK 3 (kInt .i64) (accR f x 0))]) (h2 := [.live (.box 48 [.d (.val (.bool true)), .d (.val (.int .i64 f)), .d (.val (.int .i64 u)), .own 1 (k_api_Envelope false).sz 0 l0.length]), (z7c15_0 l0), .live (arrK 3 (kInt .i64) ([] : List Int))]) (by have e1 : ((accR f x 0).length : Nat) = 0 := (by first | rfl); have hE := congrArg (fun (q1 : Nat) => ([pv 0 0, slV tx nx (kInt .i64) x, aa, aa, aa, ownV 2 (kInt .i64) 0 q1, dv (.int .i64 0)] : List AV)) e1; exact hE) (by have e1 : ((accR f x 0) : List Int) = ([] : List Int) := (by first | rfl); have hE := congrArg (fun (q1 : List Int) => ([.live (.box 48 [.d (.val (.bool true)), .d (.val (.int .i64 f)), .d (.val (.int .i64 u)), .own 1 (k_api_Envelope false).sz 0 l0.length]), (z7c15_0 l0), .live (arrK 3 (kInt .i64) q1)] : List HS)) e1; exact hE) (by kernel_rfl) (by kernel_rfl) (by kernel_rfl) (by kernel_rfl) (by kernel_rfl) (by kernel_rfl) (by kernel_rfl) (by kernel_rfl) (by kernel_rfl) (by kernel_rfl) (by kernel_rfl) hG) ?_
 rintro k hk
 show T _ _ ⟨[pv 0 0, slV tx nx (kInt .i64) x, aa, aa, aa, ownV 2 (kInt .i64) 0 (accR f x k).length, dv (.int .i64 ((k : Nat) : Int))], [.live (.box 48 [.d (.val (.bool true)), .d (.val (.int .i64 f)), .d (.val (.int .i64 u)), .own 1 (k_api_Envelope false).sz 0 l0.length]), (z7c15_0 l0), .live (arrK 3 (kInt .i64) (accR f x k))]⟩ _ _
 replace hk : k ≤ x.length := hk
 have hal := acc_len f x k
 refine T.seq ?_
 refine T.seq ?_
 refine xR [] (by kernel_rfl) (by kernel_rfl) ?_
 refine nT ?_
 by_cases hq1 : ((k : Nat) : Int) < ((x.length : Nat) : Int)
 ·refine T.condT (by kernel_rfl) (decide_eq_true hq1) ?_
  refine T.skip ?_
  refine nT ?_
  refine T.seq ?_
  refine T.block ?_
  refine T.seq ?_
  by_cases hq2 : isReplica f (x.getD k 0)
  ·refine xR [hR 3 rfl rfl (q_index tx nx (kInt .i64) x k (k := .i64) (i := ((k : Nat) : Int)) Try.underlying50 iat_3 rfl rfl (by first | assumption | omega | (unfold maxLen; omega) | (simp [maxLen, -List.getD_eq_getElem?_getD] <;> omega) | decide) (lt_of rfl) trivial),
     hR 5 rfl rfl (r_call (ref03_Replica f u l0 (x.getD k 0) (by first | assumption | omega | (unfold maxLen; omega) | (simp [maxLen, -List.getD_eq_getElem?_getD] <;> omega) | decide) (by first | assumption | omega | (unfold maxLen; omega) | (simp [maxLen, -List.getD_eq_getElem?_getD] <;> omega) | decide)) Try.func42 rfl (by decide) [0, 1] [] (l := [(.tmp 13, pv 0 0), (.tmp 17, dv (.int .i64 (x.getD k 0)))]) [] rfl 2 2 rfl rfl rfl rfl rfl rfl rfl rfl rfl ⟨.inl ⟨rfl, rfl⟩, ⟨.inl ⟨rfl, rfl⟩, trivial⟩⟩ rfl (fun b hb => by cases hb) (.inl rfl) (lt_of rfl) trivial),
     hY 7 (decide_eq_true hq2),
     hY 8 (decide_eq_true hq2),
     hS 9 (oY rfl rfl rfl rfl (lt_of rfl) (decide_eq_true hq2) (q_index tx nx (kInt .i64) x k (k := .i64) (i := ((k : Nat) : Int)) Try.underlying50 iat_3 rfl rfl (by first | assumption | omega | (unfold maxLen; omega) | (simp [maxLen, -List.getD_eq_getElem?_getD] <;> omega) | decide) (lt_of rfl) (by exact trivial))),
     hY 10 (decide_eq_true hq2),
     hY 11 (decide_eq_true hq2),
     hS 12 (oY rfl rfl rfl rfl (lt_of rfl) (decide_eq_true hq2) (r_call (ref03_in (x.getD k 0) true false (accR f x k) (by first | assumption | omega | (unfold maxLen; omega) | (simp [maxLen, -List.getD_eq_getElem?_getD] <;> omega) | decide)) Try.func49 rfl (by decide) [] [2] (l := [(.tmp 23, dv (.int .i64 (x.getD k 0))), (.tmp 24, ownV 2 (kInt .i64) 0 (accR f x k).length)]) [(2, .live (arrK 3 (kInt .i64) (accR f x k)))] rfl 0 0 rfl rfl rfl rfl rfl rfl rfl rfl rfl ⟨.inl ⟨rfl, rfl⟩, ⟨.inr (.inl ⟨rfl, (fun h => by cases h), rfl, rfl, by simp, 3, (accR f x k).length, elOf (kInt .i64) (accR f x k), List.Mem.head _, (by first | exact Nat.le_of_eq (Nat.zero_add _) | omega), fun i j => by rw [Nat.zero_add]⟩), trivial⟩⟩ rfl (by intro b hb; simp only [List.mem_cons, List.not_mem_nil, or_false] at hb; rcases hb with rfl; exact ⟨_, List.Mem.head _⟩) (.inr ⟨trivial, trivial⟩) (lt_of rfl) (by exact trivial))),
     hY 13 (decide_eq_true hq2),
     hP 14 (decide_eq_true hq2)] (by kernel_rfl) (by kernel_rfl) ?_
   refine nT ?_
   by_cases hq3 : (x.getD k 0) ∈ (accR f x k)
   ·refine T.condF (by kernel_rfl) (congrArg Bool.not (decide_eq_true hq3)) ?_
    refine T.skip ?_
    refine nB ?_
    refine nT ?_
    refine xR [hR 1 rfl rfl (r_bin (u1 := .int .i64 ((k : Nat) : Int)) (u2 := .int .i64 1) (v := .int .i64 ((k + 1 : Nat) : Int)) (b_add (by rw [IntKind.wrap_i64]; omega)) (lt_of rfl) ⟨rfl, trivial⟩)] (by kernel_rfl) (by kernel_rfl) ?_
    refine nL (k + 1) (show (k + 1) ≤ x.length from (by omega)) (show (x.length - (k + 1) : Nat) < x.length - k from (by omega)) (fun _ _ hG => Gs.into2 (s' := ⟨(z7c15_2 f tx nx x k), [.live (.box 48 [.d (.val (.bool true)), .d (.val (.int .i64 f)), .d (.val (.int .i64 u)), .own 1 (k_api_Envelope false).sz 0 l0.length]), (z7c15_0 l0), .live (arrK 3 (kInt .i64) (accR f x (k + 1)))]⟩) [0, 1, 2] (bm 7 99) (t1 := (z7c15_2 f tx nx x k)) (t2 := [pv 0 0, slV tx nx (kInt .i64) x, aa, aa, aa, ownV 2 (kInt .i64) 0 (accR f x k).length, (z7c15_1 k)]) (h1 := [.live (.box 48 [.d (.val (.bool true)), .d (.val (.int .i64 f)), .d (.val (.int .i64 u)), .own 1 (k_api_Envelope false).sz 0 l0.length]), (z7c15_0 l0), .live (arrK 3 (kInt .i64) (accR f x (k + 1)))]) (h2 := [.live (.box 48 [.d (.val (.bool true)), .d (.val (.int .i64 f)), .d (.val (.int .i64 u)), .own 1 (k_api_Envelope false).sz 0 l0.length]), (z7c15_0 l0), .live (arrK 3 (kInt .i64) (accR f x k))]) (by have e1 : ((accR f x (k + 1)).length : Nat) = (accR f x k).length := (by first | rfl | (rw [acc_yes (by assumption) (by assumption)]) | (rw [acc_no1 (by assumption)]) | (rw [acc_no2 (by assumption)])); have hE := congrArg (fun (q1 : Nat) => ([pv 0 0, slV tx nx (kInt .i64) x, aa, aa, aa, ownV 2 (kInt .i64) 0 q1, (z7c15_1 k)] : List AV)) e1; exact hE) (by have e1 : ((accR f x (k + 1)) : List Int) = (accR f x k) := (by first | rfl | (rw [acc_yes (by assumption) (by assumption)]) | (rw [acc_no1 (by assumption)]) | (rw [acc_no2 (by assumption)])); have hE := congrArg (fun (q1 : List Int) => ([.live (.box 48 [.d (.val (.bool true)), .d (.val (.int .i64 f)), .d (.val (.int .i64 u)), .own 1 (k_api_Envelope false).sz 0 l0.length]), (z7c15_0 l0), .live (arrK 3 (kInt .i64) q1)] : List HS)) e1; exact hE) (by kernel_rfl) (by kernel_rfl) (by kernel_rfl) (by kernel_rfl) (by kernel_rfl) (by kernel_rfl) (by kernel_rfl) (by kernel_rfl) (by kernel_rfl) (by kernel_rfl) (by kernel_rfl) hG)
   ·refine T.condT (by kernel_rfl) (congrArg Bool.not (decide_eq_false hq3)) ?_
    refine xR [hR 3 rfl rfl (q_index tx nx (kInt .i64) x k (k := .i64) (i := ((k : Nat) : Int)) Try.underlying50 iat_3 rfl rfl (by first | assumption | omega | (unfold maxLen; omega) | (simp [maxLen, -List.getD_eq_getElem?_getD] <;> omega) | decide) (lt_of rfl) trivial),
      hR 5 rfl rfl (q_buildSlice 3 3 (kInt .i64) (kInt_ok .i64) [(x.getD k 0)] [⟨0, .tmp 32, .one (.d (.val (.int .i64 (x.getD k 0)))), 0⟩] (cs := [.d (.val (.int .i64 (x.getD k 0)))]) Try.underlying50 iat_3 rfl zero_3 rfl rfl rfl (Nat.le_of_ble_eq_true rfl) (part_cons rfl rfl (Nat.le_of_ble_eq_true rfl) part_ok) (by kernel_rfl) (wk_eq (by kernel_rfl)) (lt_of rfl) trivial),
      hR 6 rfl rfl (q_appendO 2 4 3 8 (kInt .i64) (kInt_ok .i64) (accR f x k) [(x.getD k 0)] ((accR f x k) ++ [(x.getD k 0)]) (accR f x k).length (sy := (.own 3 (kInt .i64).sz 0 [(x.getD k 0)].length)) (rhs := [(3, .live (arrK 3 (kInt .i64) [(x.getD k 0)]))]) elem_50 (by first | assumption | omega | (unfold maxLen; omega) | (simp [maxLen, -List.getD_eq_getElem?_getD] <;> omega) | decide) (src_own 3 3 (kInt .i64) [(x.getD k 0)]) (by rw [List.take_length]) (by first | assumption | omega | (unfold maxLen; omega) | (simp [maxLen, -List.getD_eq_getElem?_getD] <;> omega) | decide) (by first | assumption | omega | (unfold maxLen; omega) | (simp [maxLen, -List.getD_eq_getElem?_getD] <;> omega) | decide) (lt_of rfl) trivial)] (by kernel_rfl) (by kernel_rfl) ?_
    refine nB ?_
    refine nT ?_
    refine xR [hR 1 rfl rfl (r_bin (u1 := .int .i64 ((k : Nat) : Int)) (u2 := .int .i64 1) (v := .int .i64 ((k + 1 : Nat) : Int)) (b_add (by rw [IntKind.wrap_i64]; omega)) (lt_of rfl) ⟨rfl, trivial⟩)] (by kernel_rfl) (by kernel_rfl) ?_
    refine nL (k + 1) (show (k + 1) ≤ x.length from (by omega)) (show (x.length - (k + 1) : Nat) < x.length - k from (by omega)) (fun _ _ hG => Gs.into2 (s' := ⟨(z7c15_2 f tx nx x k), [.live (.box 48 [.d (.val (.bool true)), .d (.val (.int .i64 f)), .d (.val (.int .i64 u)), .own 1 (k_api_Envelope false).sz 0 l0.length]), (z7c15_0 l0), .live (arrK 3 (kInt .i64) (accR f x (k + 1)))]⟩) [0, 1, 4] (bm 7 99) (t1 := [pv 0 0, slV tx nx (kInt .i64) x, aa, aa, aa, ownV 4 (kInt .i64) 0 (accR f x (k + 1)).length, (z7c15_1 k)]) (t2 := [pv 0 0, slV tx nx (kInt .i64) x, aa, aa, aa, ownV 4 (kInt .i64) 0 ((accR f x k) ++ [(x.getD k 0)]).length, (z7c15_1 k)]) (h1 := [.live (.box 48 [.d (.val (.bool true)), .d (.val (.int .i64 f)), .d (.val (.int .i64 u)), .own 1 (k_api_Envelope false).sz 0 l0.length]), (z7c15_0 l0), .live (arrK 3 (kInt .i64) (accR f x (k + 1)))]) (h2 := [.live (.box 48 [.d (.val (.bool true)), .d (.val (.int .i64 f)), .d (.val (.int .i64 u)), .own 1 (k_api_Envelope false).sz 0 l0.length]), (z7c15_0 l0), .live (arrK 3 (kInt .i64) ((accR f x k) ++ [(x.getD k 0)]))]) (by have e1 : ((accR f x (k + 1)).length : Nat) = ((accR f x k) ++ [(x.getD k 0)]).length := (by first | rfl | (rw [acc_yes (by assumption) (by assumption)]) | (rw [acc_no1 (by assumption)]) | (rw [acc_no2 (by assumption)])); have hE := congrArg (fun (q1 : Nat) => ([pv 0 0, slV tx nx (kInt .i64) x, aa, aa, aa, ownV 4 (kInt .i64) 0 q1, (z7c15_1 k)] : List AV)) e1; exact hE) (by have e1 : ((accR f x (k + 1)) : List Int) = (accR f x k) ++ [(x.getD k 0)] := (by first | rfl | (rw [acc_yes (by assumption) (by assumption)]) | (rw [acc_no1 (by assumption)]) | (rw [acc_no2 (by assumption)])); have hE := congrArg (fun (q1 : List Int) => ([.live (.box 48 [.d (.val (.bool true)), .d (.val (.int .i64 f)), .d (.val (.int .i64 u)), .own 1 (k_api_Envelope false).sz 0 l0.length]), (z7c15_0 l0), .live (arrK 3 (kInt .i64) q1)] : List HS)) e1; exact hE) (by kernel_rfl) (by kernel_rfl) (by kernel_rfl) (by kernel_rfl) (by kernel_rfl) (by kernel_rfl) (by kernel_rfl) (by kernel_rfl) (by kernel_rfl) (by kernel_rfl) (by kernel_rfl) hG)
  ·refine xR [hR 3 rfl rfl (q_index tx nx (kInt .i64) x k (k := .i64) (i := ((k : Nat) : Int)) Try.underlying50 iat_3 rfl rfl (by first | assumption | omega | (unfold maxLen; omega) | (simp [maxLen, -List.getD_eq_getElem?_getD] <;> omega) | decide) (lt_of rfl) trivial),
     hR 5 rfl rfl (r_call (ref03_Replica f u l0 (x.getD k 0) (by first | assumption | omega | (unfold maxLen; omega) | (simp [maxLen, -List.getD_eq_getElem?_getD] <;> omega) | decide) (by first | assumption | omega | (unfold maxLen; omega) | (simp [maxLen, -List.getD_eq_getElem?_getD] <;> omega) | decide)) Try.func42 rfl (by decide) [0, 1] [] (l := [(.tmp 13, pv 0 0), (.tmp 17, dv (.int .i64 (x.getD k 0)))]) [] rfl 2 2 rfl rfl rfl rfl rfl rfl rfl rfl rfl ⟨.inl ⟨rfl, rfl⟩, ⟨.inl ⟨rfl, rfl⟩, trivial⟩⟩ rfl (fun b hb => by cases hb) (.inl rfl) (lt_of rfl) trivial),
     hN 7 true (decide_eq_false hq2),
     hN 8 true (decide_eq_false hq2),
     hN 9 true (decide_eq_false hq2),
     hN 10 true (decide_eq_false hq2),
     hN 11 true (decide_eq_false hq2),
     hN 12 true (decide_eq_false hq2),
     hN 13 true (decide_eq_false hq2),
     hP 14 (decide_eq_false hq2)] (by kernel_rfl) (by kernel_rfl) ?_
   refine nT ?_
   refine T.condF (b := false) (by kernel_rfl) rfl ?_
   refine T.skip ?_
   refine nB ?_
   refine nT ?_
   refine xR [hR 1 rfl rfl (r_bin (u1 := .int .i64 ((k : Nat) : Int)) (u2 := .int .i64 1) (v := .int .i64 ((k + 1 : Nat) : Int)) (b_add (by rw [IntKind.wrap_i64]; omega)) (lt_of rfl) ⟨rfl, trivial⟩)] (by kernel_rfl) (by kernel_rfl) ?_
   refine nL (k + 1) (show (k + 1) ≤ x.length from (by omega)) (show (x.length - (k + 1) : Nat) < x.length - k from (by omega)) (fun _ _ hG => Gs.into2 (s' := ⟨(z7c15_2 f tx nx x k), [.live (.box 48 [.d (.val (.bool true)), .d (.val (.int .i64 f)), .d (.val (.int .i64 u)), .own 1 (k_api_Envelope false).sz 0 l0.length]), (z7c15_0 l0), .live (arrK 3 (kInt .i64) (accR f x (k + 1)))]⟩) [0, 1, 2] (bm 7 99) (t1 := (z7c15_2 f tx nx x k)) (t2 := [pv 0 0, slV tx nx (kInt .i64) x, aa, aa, aa, ownV 2 (kInt .i64) 0 (accR f x k).length, (z7c15_1 k)]) (h1 := [.live (.box 48 [.d (.val (.bool true)), .d (.val (.int .i64 f)), .d (.val (.int .i64 u)), .own 1 (k_api_Envelope false).sz 0 l0.length]), (z7c15_0 l0), .live (arrK 3 (kInt .i64) (accR f x (k + 1)))]) (h2 := [.live (.box 48 [.d (.val (.bool true)), .d (.val (.int .i64 f)), .d (.val (.int .i64 u)), .own 1 (k_api_Envelope false).sz 0 l0.length]), (z7c15_0 l0), .live (arrK 3 (kInt .i64) (accR f x k))]) (by have e1 : ((accR f x (k + 1)).length : Nat) = (accR f x k).length := (by first | rfl | (rw [acc_yes (by assumption) (by assumption)]) | (rw [acc_no1 (by assumption)]) | (rw [acc_no2 (by assumption)])); have hE := congrArg (fun (q1 : Nat) => ([pv 0 0, slV tx nx (kInt .i64) x, aa, aa, aa, ownV 2 (kInt .i64) 0 q1, (z7c15_1 k)] : List AV)) e1; exact hE) (by have e1 : ((accR f x (k + 1)) : List Int) = (accR f x k) := (by first | rfl | (rw [acc_yes (by assumption) (by assumption)]) | (rw [acc_no1 (by assumption)]) | (rw [acc_no2 (by assumption)])); have hE := congrArg (fun (q1 : List Int) => ([.live (.box 48 [.d (.val (.bool true)), .d (.val (.int .i64 f)), .d (.val (.int .i64 u)), .own 1 (k_api_Envelope false).sz 0 l0.length]), (z7c15_0 l0), .live (arrK 3 (kInt .i64) q1)] : List HS)) e1; exact hE) (by kernel_rfl) (by kernel_rfl) (by kernel_rfl) (by kernel_rfl) (by kernel_rfl) (by kernel_rfl) (by kernel_rfl) (by kernel_rfl) (by kernel_rfl) (by kernel_rfl) (by kernel_rfl) hG)
 ·refine T.condF (by kernel_rfl) (decide_eq_false hq1) ?_
  refine T.exit ?_
  refine xT ?_
  refine xT ?_
  refine xH ?_
  refine nT ?_
  refine T.seq ?_
  refine xR [] (by kernel_rfl) (by kernel_rfl) ?_
  refine nT ?_
  refine T.ret ?_
  exact tE (.inl rfl) [.t 4 (.one (.d (.val (.int .i64 (((accR f x k).length : Nat) : Int)))))] ⟨⟨rfl, by kernel_rfl⟩, trivial⟩ [0, 1] (by have e1 : (((cntR f x : Nat) : Int) : Int) = (((accR f x k).length : Nat) : Int) := (by first | rfl | (rw [← acc_cnt hf, show k = x.length by omega])); have hE := congrArg (fun (q1 : Int) => (dv (.int .i64 q1) : AV)) e1; exact hE) rfl rfl rfl rfl rfl ⟨⟨rfl, (by kernel_rfl)⟩, ⟨⟨rfl, (by kernel_rfl)⟩, trivial⟩⟩
end Go.Proofs.Ytladnlechpadlaa.Q
namespace Go.Proofs.Ytladnlechpadlaa.Q
open Go Go.RowKit
set_option linter.unusedVariables false
set_option linter.unusedSimpArgs false
set_option maxRecDepth 100000
set_option maxHeartbeats 4000000
abbrev z9613_0 (te : Bool) (ne : Bool) (se : Bool) (l : List api_Envelope) : AV := slV te ne (k_api_Envelope se) l
abbrev z9613_1 (l : List api_Envelope) : AV := dv (.int .i64 ((l.length : Nat) : Int))
abbrev z9613_2 (te : Bool) (ne : Bool) (se : Bool) (l : List api_Envelope) : List AV := [pv 0 0, (z9613_0 te ne se l), aa, aa, dv (.int .i64 0), dv (.int .u64 ((seenB l 0 : Nat) : Int)), aa, aa, (z9613_0 te ne se l), (z9613_1 l), dv (.int .i64 0)]
abbrev z9613_3 (k : Nat) : AV := dv (.int .i64 ((k + 1 : Nat) : Int))
-- (*quaestor/authn.Authority).Distinct
theorem authn_Distinct (f : Int) (u : Int) (rows : List (authn_pair × Bool)) (te : Bool) (ne : Bool) (se : Bool) (l : List api_Envelope) (hf : 0 ≤ f ∧ f ≤ 2) (hu : 0 ≤ u ∧ u ≤ 8) (hl : l.length ≤ 1000000) : Holds Try.prog 29 ⟨[pv 0 0, slV te ne (k_api_Envelope se) l], [.box 58 [.d (.val (.int .i64 (3 * f + 1))), .d (.val (.int .i64 u)), .mref 1], mpK f_authn_pair kBool rows], dv (.int .i64 (dstE f l)), [.live (.box 58 [.d (.val (.int .i64 (3 * f + 1))), .d (.val (.int .i64 u)), .mref 1]), .live (mpK f_authn_pair kBool rows)]⟩ := by
 refine Holds.of Try.func29 rfl (N := 33) Try.ntmps29 rfl fun w0 B0 S0 U0 => ?_
 show T _ (mkBase 33 2 w0 S0 U0 B0) ⟨[pv 0 0, (z9613_0 te ne se l)], [.live (.box 58 [.d (.val (.int .i64 (3 * f + 1))), .d (.val (.int .i64 u)), .mref 1]), .live (mpK f_authn_pair kBool rows)]⟩ _ _
 refine T.seq ?_
 refine xR [] (by kernel_rfl) (by kernel_rfl) ?_
 refine nT ?_
 refine T.seq ?_
 refine xR [] (by kernel_rfl) (by kernel_rfl) ?_
 refine nT ?_
 refine T.seq ?_
 refine T.seq ?_
 refine xR [] (by kernel_rfl) (by kernel_rfl) ?_
 refine nT ?_
 refine T.block ?_
 refine T.loop (ι := Nat) (fun (k : Nat) => ⟨[pv 0 0, (z9613_0 te ne se l), aa, aa, dv (.int .i64 0), dv (.int .u64 ((seenB l k : Nat) : Int)), aa, aa, (z9613_0 te ne se l), (z9613_1 l), dv (.int .i64 ((k : Nat) : Int))], [.live (.box 58 [.d (.val (.int .i64 (3 * f + 1))), .d (.val (.int .i64 u)), .mref 1]), .live (mpK f_authn_pair kBool rows)]⟩) (fun (k : Nat) => (k ≤ l.length) ∧ (∀ j, j < k → dst1 f l j = 0)) (fun (k : Nat) => l.length - k) (0) ⟨(Nat.zero_le _), (fun j hj => absurd hj (Nat.not_lt_zero _))⟩ (fun _ _ hG => Gs.into2 (s' := ⟨(z9613_2 te ne se l), [.live (.box 58 [.d (.val (.int .i64 (3 * f + 1))), .d (.val (.int .i64 u)), .mref 1]), .live (mpK f_authn_pair kBool rows)]⟩) [0, 1] (bm 11 1843) (t1 := (z9613_2 te ne se l)) (t2 := [pv 0 0, (z9613_0 te ne se l), aa, aa, dv (.int .i64 0), dv (.int .u64 0), aa, aa, (z9613_0 te ne se l), (z9613_1 l), dv (.int .i64 0)]) (h1 := [.live (.box 58 [.d (.val (.int .i64 (3 * f + 1))), .d (.val (.int .i64 u)), .mref 1]), .live (mpK f_authn_pair kBool rows)]) (by have e1 : (((seenB l 0 : Nat) : Int) : Int) = 0 := (by first | rfl); have hE := congrArg (fun (q1 : Int) => ([pv 0 0, (z9613_0 te ne se l), aa, aa, dv (.int .i64 0), dv (.int .u64 q1), aa, aa, (z9613_0 te ne se l), (z9613_1 l), dv (.int .i64 0)] : List AV)) e1; exact hE) rfl (by kernel_rfl) (by kernel_rfl) (by kernel_rfl) (by kernel_rfl) (by kernel_rfl) (by kernel_rfl) (by kernel_rfl) (by kernel_rfl) (by kernel_rfl) (by kernel_rfl) (by kernel_rfl) hG) ?_
 rintro k ⟨hk, hb⟩
 show T _ _ ⟨[pv 0 0, (z9613_0 te ne se l), aa, aa, dv (.int .i64 0), dv (.int .u64 ((seenB l k : Nat) : Int)), aa, aa, (z9613_0 te ne se l), (z9613_1 l), dv (.int .i64 ((k : Nat) : Int))], [.live (.box 58 [.d (.val (.int .i64 (3 * f + 1))), .d (.val (.int .i64 u)), .mref 1]), .live (mpK f_authn_pair kBool rows)]⟩ _ _
 replace hk : k ≤ l.length := hk
 replace hb : ∀ j, j < k → dst1 f l j = 0 := hb
 refine T.seq ?_
 refine xR [] (by kernel_rfl) (by kernel_rfl) ?_
 refine nT ?_
 refine T.seq ?_
 by_cases hq1 : ((k : Nat) : Int) < ((l.length : Nat) : Int)
 ·refine T.condT (by kernel_rfl) (decide_eq_true hq1) ?_
  refine T.skip ?_
  refine nT ?_
  refine T.seq ?_
  refine T.block ?_
  refine T.seq ?_
  refine xR [hR 0 rfl rfl (q_index te ne (k_api_Envelope se) l k (k := .i64) (i := ((k : Nat) : Int)) Try.underlying46 iat_32 rfl rfl (by first | assumption | omega | (unfold maxLen; omega) | (simp [maxLen, -List.getD_eq_getElem?_getD] <;> omega) | decide) (lt_of rfl) trivial)] (by kernel_rfl) (by kernel_rfl) ?_
  refine nT ?_
  refine T.seq ?_
  refine T.block ?_
  refine T.seq ?_
  refine xR [hR 3 rfl rfl (r_call (authn_Replica f u rows (l.getD k z_api_Envelope).f_Signer (by first | assumption | omega | (unfold maxLen; omega) | (simp [maxLen, -List.getD_eq_getElem?_getD] <;> omega) | decide) (by first | assumption | omega | (unfold maxLen; omega) | (simp [maxLen, -List.getD_eq_getElem?_getD] <;> omega) | decide)) Try.func41 rfl (by decide) [0, 1] [] (l := [(.tmp 15, pv 0 0), (.tmp 17, dv (.int .i64 (l.getD k z_api_Envelope).f_Signer))]) [] rfl 2 2 rfl rfl rfl rfl rfl rfl rfl rfl rfl ⟨.inl ⟨rfl, rfl⟩, ⟨.inl ⟨rfl, rfl⟩, trivial⟩⟩ rfl (fun b hb => by cases hb) (.inl rfl) (lt_of rfl) trivial)] (by kernel_rfl) (by kernel_rfl) ?_
  refine nT ?_
  by_cases hq2 : isReplica f (l.getD k z_api_Envelope).f_Signer
  ·have hrep := hq2; have hr91 := hrep.1; have hr92 := hrep.2; have hsw := shl_lt (n := (l.getD k z_api_Envelope).f_Signer.toNat) (by omega); have hsl := seen_lt hf.2 hb
   refine T.condF (by kernel_rfl) (congrArg Bool.not (decide_eq_true hq2)) ?_
   refine T.seq ?_
   refine xR [hR 3 rfl rfl (r_bin (u1 := .int .u64 ((seenB l k : Nat) : Int)) (u2 := .int .i64 (l.getD k z_api_Envelope).f_Signer) (v := .int .u64 (((seenB l k) / 2 ^ ((l.getD k z_api_Envelope).f_Signer).toNat : Nat) : Int)) (b_shrN (n := ((l.getD k z_api_Envelope).f_Signer).toNat) (by omega) (Nat.le_trans (by first | assumption | omega | (unfold maxLen; omega) | (simp [maxLen, -List.getD_eq_getElem?_getD] <;> omega) | decide) (by decide : 64 ≤ _))) (lt_of rfl) trivial),
     hR 4 rfl rfl (r_bin (u1 := .int .u64 (((seenB l k) / 2 ^ ((l.getD k z_api_Envelope).f_Signer).toNat : Nat) : Int)) (u2 := .int .u64 1) (v := .int .u64 ((((seenB l k) / 2 ^ ((l.getD k z_api_Envelope).f_Signer).toNat) % 2 : Nat) : Int)) (b_and1 (Nat.lt_of_le_of_lt (Nat.div_le_self _ _) (by omega))) (lt_of rfl) ⟨rfl, trivial⟩)] (by kernel_rfl) (by kernel_rfl) ?_
   refine nT ?_
   by_cases hq3 : ((((seenB l k) / 2 ^ ((l.getD k z_api_Envelope).f_Signer).toNat) % 2 : Nat) : Int) = 1
   ·have hd9 := dst_dup hrep ((seen_dup hb hrep).1 hq3)
    refine T.condT (by kernel_rfl) (decide_eq_true hq3) ?_
    refine T.seq ?_
    refine xR [] (by kernel_rfl) (by kernel_rfl) ?_
    refine nT ?_
    refine T.ret ?_
    refine rB ?_
    refine rT ?_
    refine rB ?_
    refine rT ?_
    refine rT ?_
    refine rB ?_
    refine rT ?_
    exact tE (.inl rfl) [.t 4 (.one (.d (.val (.int .i64 33))))] ⟨⟨rfl, by kernel_rfl⟩, trivial⟩ [0, 1] (by have e1 : ((dstE f l) : Int) = 33 := (by first | rfl | exact (dst_at hb (by omega) (by rw [hd9]; decide)).trans hd9 | exact ((dst_at hb (by omega) (by rw [hd9]; decide)).trans hd9).symm | exact dst_0 hb (by omega) | exact (dst_0 hb (by omega)).symm); have hE := congrArg (fun (q1 : Int) => (dv (.int .i64 q1) : AV)) e1; exact hE) rfl rfl rfl rfl rfl ⟨⟨rfl, (by kernel_rfl)⟩, ⟨⟨rfl, (by kernel_rfl)⟩, trivial⟩⟩
   ·have hd9 := dst_ok hrep (fun w => hq3 ((seen_dup hb hrep).2 w))
    refine T.condF (by kernel_rfl) (decide_eq_false hq3) ?_
    refine T.skip ?_
    refine nB ?_
    refine nT ?_
    refine xR [hR 3 rfl rfl (r_bin (u1 := .int .u64 1) (u2 := .int .i64 (l.getD k z_api_Envelope).f_Signer) (v := .int .u64 ((1 * 2 ^ (l.getD k z_api_Envelope).f_Signer.toNat : Nat) : Int)) (b_shlN (n := (l.getD k z_api_Envelope).f_Signer.toNat) (by omega) (Nat.le_trans (by omega) (by decide : 64 ≤ _)) (shl_wrap (by omega))) (lt_of rfl) ⟨rfl, trivial⟩),
      hR 4 rfl rfl (r_bin (u1 := .int .u64 ((seenB l k : Nat) : Int)) (u2 := .int .u64 ((1 * 2 ^ (l.getD k z_api_Envelope).f_Signer.toNat : Nat) : Int)) (v := .int .u64 (((seenB l k) ||| (1 * 2 ^ (l.getD k z_api_Envelope).f_Signer.toNat) : Nat) : Int)) (b_orU (by first | assumption | omega | (unfold maxLen; omega) | (simp [maxLen, -List.getD_eq_getElem?_getD] <;> omega) | decide) (by first | assumption | omega | (unfold maxLen; omega) | (simp [maxLen, -List.getD_eq_getElem?_getD] <;> omega) | decide)) (lt_of rfl) trivial)] (by kernel_rfl) (by kernel_rfl) ?_
    refine nB ?_
    refine nT ?_
    refine xR [hR 0 rfl rfl (r_bin (u1 := .int .i64 ((k : Nat) : Int)) (u2 := .int .i64 1) (v := .int .i64 ((k + 1 : Nat) : Int)) (b_add (by rw [IntKind.wrap_i64]; omega)) (lt_of rfl) ⟨rfl, trivial⟩)] (by kernel_rfl) (by kernel_rfl) ?_
    refine nL (k + 1) ⟨(show (k + 1) ≤ l.length from (by omega)), (show ∀ j, j < (k + 1) → dst1 f l j = 0 from (all_succ hb hd9))⟩ (show (l.length - (k + 1) : Nat) < l.length - k from (by omega)) (fun _ _ hG => Gs.into2 (s' := ⟨[pv 0 0, (z9613_0 te ne se l), aa, aa, dv (.int .i64 0), dv (.int .u64 ((seenB l (k + 1) : Nat) : Int)), aa, aa, (z9613_0 te ne se l), (z9613_1 l), (z9613_3 k)], [.live (.box 58 [.d (.val (.int .i64 (3 * f + 1))), .d (.val (.int .i64 u)), .mref 1]), .live (mpK f_authn_pair kBool rows)]⟩) [0, 1] (bm 11 1843) (t1 := [pv 0 0, (z9613_0 te ne se l), aa, aa, dv (.int .i64 0), dv (.int .u64 ((seenB l (k + 1) : Nat) : Int)), aa, aa, (z9613_0 te ne se l), (z9613_1 l), (z9613_3 k)]) (t2 := [pv 0 0, (z9613_0 te ne se l), aa, aa, dv (.int .i64 0), dv (.int .u64 (((seenB l k) ||| (1 * 2 ^ (l.getD k z_api_Envelope).f_Signer.toNat) : Nat) : Int)), aa, aa, (z9613_0 te ne se l), (z9613_1 l), (z9613_3 k)]) (h1 := [.live (.box 58 [.d (.val (.int .i64 (3 * f + 1))), .d (.val (.int .i64 u)), .mref 1]), .live (mpK f_authn_pair kBool rows)]) (by have e1 : (((seenB l (k + 1) : Nat) : Int) : Int) = (((seenB l k) ||| (1 * 2 ^ (l.getD k z_api_Envelope).f_Signer.toNat) : Nat) : Int) := (by first | rfl | (rw [Nat.one_mul]; rfl)); have hE := congrArg (fun (q1 : Int) => ([pv 0 0, (z9613_0 te ne se l), aa, aa, dv (.int .i64 0), dv (.int .u64 q1), aa, aa, (z9613_0 te ne se l), (z9613_1 l), (z9613_3 k)] : List AV)) e1; exact hE) rfl (by kernel_rfl) (by kernel_rfl) (by kernel_rfl) (by kernel_rfl) (by kernel_rfl) (by kernel_rfl) (by kernel_rfl) (by kernel_rfl) (by kernel_rfl) (by kernel_rfl) (by kernel_rfl) hG)
  ·have hd9 := dst_no hq2
   refine T.condT (by kernel_rfl) (congrArg Bool.not (decide_eq_false hq2)) ?_
   refine T.seq ?_
   refine xR [] (by kernel_rfl) (by kernel_rfl) ?_
   refine nT ?_
   refine T.ret ?_
   refine rB ?_
   refine rT ?_
   refine rB ?_
   refine rT ?_
   refine rT ?_
   refine rB ?_
   refine rT ?_
   exact tE (.inl rfl) [.t 4 (.one (.d (.val (.int .i64 30))))] ⟨⟨rfl, by kernel_rfl⟩, trivial⟩ [0, 1] (by have e1 : ((dstE f l) : Int) = 30 := (by first | rfl | exact (dst_at hb (by omega) (by rw [hd9]; decide)).trans hd9 | exact ((dst_at hb (by omega) (by rw [hd9]; decide)).trans hd9).symm | exact dst_0 hb (by omega) | exact (dst_0 hb (by omega)).symm); have hE := congrArg (fun (q1 : Int) => (dv (.int .i64 q1) : AV)) e1; exact hE) rfl rfl rfl rfl rfl ⟨⟨rfl, (by kernel_rfl)⟩, ⟨⟨rfl, (by kernel_rfl)⟩, trivial⟩⟩
 ·refine T.condF (by kernel_rfl) (decide_eq_false hq1) ?_
  refine T.exit ?_
  refine xT ?_
  refine xT ?_
  refine xH ?_
  refine nT ?_
  refine T.seq ?_
  refine xR [] (by kernel_rfl) (by kernel_rfl) ?_
  refine nT ?_
  refine T.ret ?_
  exact tE (.inl rfl) [.t 4 (.one (.d (.val (.int .i64 0))))] ⟨⟨rfl, by kernel_rfl⟩, trivial⟩ [0, 1] (by have e1 : ((dstE f l) : Int) = 0 := (by first | rfl | exact (dst_at hb (by omega) (by rw [hd9]; decide)).trans hd9 | exact ((dst_at hb (by omega) (by rw [hd9]; decide)).trans hd9).symm | exact dst_0 hb (by omega) | exact (dst_0 hb (by omega)).symm); have hE := congrArg (fun (q1 : Int) => (dv (.int .i64 q1) : AV)) e1; exact hE) rfl rfl rfl rfl rfl ⟨⟨rfl, (by kernel_rfl)⟩, ⟨⟨rfl, (by kernel_rfl)⟩, trivial⟩⟩
end Go.Proofs.Ytladnlechpadlaa.Q
