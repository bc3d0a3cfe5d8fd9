import Derived.Test.YtdgjpmhpjhdkmaaM02L
import Derived.Test.YtdgjpmhpjhdkmaaM01F
namespace Go.Proofs.Ytdgjpmhpjhdkmaa.Q
set_option linter.unusedVariables false
set_option linter.unusedSimpArgs false

/-! ### Opened by the document's reader -/

structure Op2 where
  a : Nat
  e : Int
  ps : List (List UInt8)
def step2 (B : List UInt8) (s : Op2) : Op2 := ⟨rfYA B s.a s.e 1099511627776, rdYE (B.drop s.a) s.e 1099511627776, s.ps ++ [rdY (B.drop s.a) s.e 1099511627776]⟩
def start2 (B : List UInt8) : Op2 := ⟨rfA B 0 0 4 (limE 1099511627776 ((B.drop 0).take 4)), rdE (B.drop 0) 0 4 (limE 1099511627776 ((B.drop 0).take 4)), []⟩
def cnt2 (B : List UInt8) : Nat := rdC (B.drop 0) 0 1099511627776
def run2 (B : List UInt8) : Nat → Op2
  | 0 => start2 B
  | k + 1 => step2 B (run2 B k)
theorem run2_a (B : List UInt8) : ∀ k, (run2 B k).a ≤ B.length
  | 0 => rfA_le (Nat.zero_le _)
  | k + 1 => rfYA_le (run2_a B k)
theorem run2_ps (B : List UInt8) : ∀ k, (run2 B k).ps.length = k
  | 0 => rfl
  | k + 1 => by simp [run2, step2, run2_ps B k]
theorem cnt2_lt (B : List UInt8) : cnt2 B < 4294967296 := rdC_lt _ _ _
theorem run2_of {l : List (List UInt8)} (hl : szP l ≤ 4294967295) : cnt2 (cntB ((l.length : Nat) : Int) ++ partsB l) = l.length ∧ ∀ k, k ≤ l.length → (cntB ((l.length : Nat) : Int) ++ partsB l).drop (run2 (cntB ((l.length : Nat) : Int) ++ partsB l) k).a = partsB (l.drop k) ∧ (run2 (cntB ((l.length : Nat) : Int) ++ partsB l) k).e = 0 := by
  have hcnt := szP_count l
  have hc := cntN_of (n := l.length) (by omega)
  generalize hB : cntB ((l.length : Nat) : Int) ++ partsB l = B
  obtain ⟨c1, c2, c3⟩ := back_cntM (most := 1099511627776) ((l.length : Nat) : Int) (partsB l) (by rw [hc]; omega)
  rw [hB] at c1 c2 c3
  have h0 : B.drop 0 = B := rfl
  refine ⟨by rw [cnt2, h0, c1, hc], fun k => ?_⟩
  induction k with
  | zero =>
    intro _
    show B.drop (start2 B).a = _ ∧ (start2 B).e = 0
    unfold start2
    refine ⟨?_, by rw [h0]; exact c3⟩
    rw [rfA_drop, h0, c2]
    rfl
  | succ k ih =>
    intro hk
    obtain ⟨i1, i2⟩ := ih (by omega)
    have e : partsB (l.drop k) = bytesB (l.getD k []) ++ partsB (l.drop (k + 1)) := by
      unfold partsB
      rw [List.drop_eq_getElem_cons (by omega), List.flatMap_cons, List.getD_eq_getElem?_getD, List.getElem?_eq_getElem (by omega)]
      rfl
    have hm : (l.getD k []).length ≤ szP l := szP_mem (getD_mem (by omega))
    obtain ⟨b1, b2, b3⟩ := back_bytesM (most := 1099511627776) (x := l.getD k []) (by omega) (partsB (l.drop (k + 1))) (by omega)
    show B.drop (step2 B (run2 B k)).a = _ ∧ (step2 B (run2 B k)).e = 0
    unfold step2
    refine ⟨?_, ?_⟩
    · show B.drop (rfYA B _ _ _) = _
      rw [rfYA_drop, i1, i2, e, b2]
    · show rdYE _ _ _ = 0
      rw [i1, i2, e, b3]
theorem cons_drop {d : List UInt8} (h : d ≠ []) : d = d.getD 0 0 :: d.drop 1 := by
  cases d with
  | nil => exact absurd rfl h
  | cons a r => rfl
section
variable {d : List UInt8} {k : Nat} (hd : d.length ≤ 20000) (hk : k ≤ cnt2 (d.drop 1)) (hend : ¬ (k < cnt2 (d.drop 1) ∧ (run2 (d.drop 1) k).e = 0))
include hd hk hend
theorem open2_yes (hne : d ≠ []) (h : rdX ((d.drop 1).drop (run2 (d.drop 1) k).a) (run2 (d.drop 1) k).e = 0) : okO d ∧ opP d = (run2 (d.drop 1) k).ps := by
  generalize hB : d.drop 1 = B at *
  have hX : (run2 B k).e = 0 ∧ B.drop (run2 B k).a = [] := by
    unfold rdX at h
    split at h
    · cases h
    · rename_i h1
      refine ⟨h, ?_⟩
      cases hr : B.drop (run2 B k).a with
      | nil => rfl
      | cons a r => exact absurd ⟨h, by rw [hr]; simp <;> omega⟩ h1
  have hkn : k = cnt2 B := by
    have : ¬ k < cnt2 B := fun h1 => hend ⟨h1, hX.1⟩
    omega
  have hrun : ∀ j, (run2 B j).e = 0 → (start2 B).e = 0 ∧ B.drop (start2 B).a = partsB (run2 B j).ps ++ B.drop (run2 B j).a := by
    intro j
    induction j with
    | zero => exact fun h => ⟨h, rfl⟩
    | succ j ih =>
      intro h
      obtain ⟨r1, r2, _⟩ := read_bytes (rest := B.drop (run2 B j).a) (e := (run2 B j).e) (most := 1099511627776) h
      obtain ⟨i1, i2⟩ := ih r1
      refine ⟨i1, ?_⟩
      rw [i2]
      show _ = partsB ((run2 B j).ps ++ [rdY _ _ _]) ++ B.drop (rfYA B _ _ _)
      rw [rfYA_drop]
      have e : partsB ((run2 B j).ps ++ [rdY (B.drop (run2 B j).a) (run2 B j).e 1099511627776]) = partsB (run2 B j).ps ++ bytesB (rdY (B.drop (run2 B j).a) (run2 B j).e 1099511627776) := by
        simp [partsB, List.flatMap_append]
      rw [e, List.append_assoc, ← r2]
  obtain ⟨s1, s2⟩ := hrun k hX.1
  have h0 : B.drop 0 = B := rfl
  obtain ⟨_, c2, _⟩ := read_cnt (rest := B.drop 0) (e := 0) (most := 1099511627776) s1
  have hps : (run2 B k).ps.length = cnt2 B := by rw [run2_ps, hkn]
  have hr : rdR (B.drop 0) 0 4 (limE 1099511627776 ((B.drop 0).take 4)) = partsB (run2 B k).ps := by
    rw [← rfA_drop]
    show B.drop (start2 B).a = _
    rw [s2, hX.2, List.append_nil]
  have hB2 : B = cntB (((run2 B k).ps.length : Nat) : Int) ++ partsB (run2 B k).ps := by
    rw [hps, ← hr]
    exact c2
  have hd2 : d = ofB (d.getD 0 0) (run2 B k).ps := by
    conv => lhs; rw [cons_drop hne, hB, hB2]
    rfl
  have hsz : szP (run2 B k).ps ≤ 4294967295 := by
    have := ofB_len (d.getD 0 0) (run2 B k).ps
    rw [← hd2] at this
    omega
  obtain ⟨o1, _, o3⟩ := open_of (t := d.getD 0 0) hsz
  rw [← hd2] at o1 o3
  exact ⟨o1, o3⟩
theorem open2_no (h : rdX ((d.drop 1).drop (run2 (d.drop 1) k).a) (run2 (d.drop 1) k).e ≠ 0) : ¬ okO d := by
  intro hok
  have hd2 := of_open hok
  have hsz : szP (opP d) ≤ 4294967295 := by
    have := ofB_len (opT d) (opP d)
    rw [hd2] at this
    omega
  obtain ⟨r1, r2⟩ := run2_of (l := opP d) hsz
  have hB : d.drop 1 = cntB (((opP d).length : Nat) : Int) ++ partsB (opP d) := by
    conv => lhs; rw [← hd2]
    rfl
  rw [← hB] at r1 r2
  rw [r1] at hk hend
  obtain ⟨q1, q2⟩ := r2 k hk
  have hke : k = (opP d).length := by
    have : ¬ k < (opP d).length := fun h1 => hend ⟨h1, q2⟩
    omega
  apply h
  rw [q1, q2, hke, List.drop_length]
  rfl
end
end Go.Proofs.Ytdgjpmhpjhdkmaa.Q
