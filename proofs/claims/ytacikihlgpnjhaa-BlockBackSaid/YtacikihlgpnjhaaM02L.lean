import Derived.Test.YtacikihlgpnjhaaM02
namespace Go.Proofs.Ytacikihlgpnjhaa.Q
set_option linter.unusedVariables false
set_option linter.unusedSimpArgs false

def szL (x : List UInt8) : Nat := x.length
theorem few_szP {l : List (List UInt8)} (hf : fewG szL 100 2000 l) : szP l ≤ 300000 := by
  have h : ∀ (l : List (List UInt8)) (n : Nat), (∀ x, x ∈ l → x.length ≤ 2000) → l.foldl (fun n p => n + (4 + p.length)) n ≤ n + 2004 * l.length := by
    intro l
    induction l with
    | nil => intro n _; simp
    | cons p r ih =>
      intro n hx
      have h1 := ih (n + (4 + p.length)) fun x hm => hx x (List.mem_cons_of_mem _ hm)
      have h2 := hx p (List.mem_cons_self ..)
      simp only [List.foldl_cons, List.length_cons]
      omega
  have := h l 5 hf.2
  have := hf.1
  unfold szP
  omega
theorem szP_mem {l : List (List UInt8)} {x : List UInt8} (h : x ∈ l) : x.length ≤ szP l := by
  have key : ∀ (l : List (List UInt8)) (n : Nat), x ∈ l → x.length ≤ l.foldl (fun n p => n + (4 + p.length)) n := by
    intro l
    induction l with
    | nil => intro n h; cases h
    | cons p r ih =>
      intro n h
      cases h with
      | head => exact Nat.le_trans (show x.length ≤ n + (4 + x.length) by omega) (szP_ge r _)
      | tail _ h => exact ih _ h
  exact key l 5 h

/-! ### Opened again -/

theorem run_of {t : UInt8} {l : List (List UInt8)} (hl : szP l ≤ 4294967295) : cntO (ofB t l) = l.length ∧ ∀ k, k ≤ l.length → runO (ofB t l) k = ⟨partsB (l.drop k), 0, l.take k⟩ := by
  have hlen := ofB_len t l
  have hcnt := szP_count l
  have hd : (ofB t l).drop 1 = cntB ((l.length : Nat) : Int) ++ partsB l := rfl
  have hc := cntN_of (n := l.length) (by omega)
  obtain ⟨c1, c2, c3⟩ := back_cntM (most := (((ofB t l).length : Nat) : Int)) ((l.length : Nat) : Int) (partsB l) (by rw [hc]; omega)
  refine ⟨by rw [cntO, hd, c1, hc], fun k => ?_⟩
  induction k with
  | zero =>
    intro _
    show startO _ = _
    unfold startO
    rw [hd, c2, c3]
    rfl
  | succ k ih =>
    intro hk
    have e : partsB (l.drop k) = bytesB (l.getD k []) ++ partsB (l.drop (k + 1)) := by
      unfold partsB
      rw [List.drop_eq_getElem_cons (by omega), List.flatMap_cons, List.getD_eq_getElem?_getD, List.getElem?_eq_getElem (by omega)]
      rfl
    have hm : (l.getD k []).length ≤ szP l := szP_mem (getD_mem (by omega))
    obtain ⟨b1, b2, b3⟩ := back_bytesM (most := (((ofB t l).length : Nat) : Int)) (x := l.getD k []) (by omega) (partsB (l.drop (k + 1))) (by omega)
    show stepO _ (runO _ k) = _
    rw [ih (by omega)]
    unfold stepO
    rw [e, b1, b2, b3, tk_succ (z := []) (by omega)]
theorem open_of {t : UInt8} {l : List (List UInt8)} (hl : szP l ≤ 4294967295) : okO (ofB t l) ∧ opT (ofB t l) = t ∧ opP (ofB t l) = l := by
  obtain ⟨h1, h2⟩ := run_of (t := t) hl
  have hf : finO (ofB t l) = ⟨[], 0, l⟩ := by
    unfold finO
    rw [h1, h2 _ (Nat.le_refl _), List.drop_length, List.take_length]
    rfl
  have hok : okO (ofB t l) := ⟨by intro h; have := ofB_len t l; rw [h] at this; have := szP_count l; simp [szP] at *; have := szP_ge l 5; omega, by rw [hf]; rfl⟩
  refine ⟨hok, (if_pos hok).trans rfl, (if_pos hok).trans (by rw [hf])⟩
theorem ofB_inj {s t : UInt8} {l m : List (List UInt8)} (hl : szP l ≤ 4294967295) (hm : szP m ≤ 4294967295) : ofB s l = ofB t m ↔ s = t ∧ l = m := by
  constructor
  · intro h
    obtain ⟨_, a1, a2⟩ := open_of (t := s) hl
    obtain ⟨_, b1, b2⟩ := open_of (t := t) hm
    rw [h] at a1 a2
    exact ⟨a1.symm.trans b1, a2.symm.trans b2⟩
  · rintro ⟨rfl, rfl⟩; rfl

/-- What is opened is what it was made of. -/
theorem of_open {d : List UInt8} (h : okO d) : ofB (opT d) (opP d) = d := by
  obtain ⟨hne, hx⟩ := h
  have hX : (finO d).e = 0 ∧ (finO d).rest = [] := by
    unfold rdX at hx
    split at hx
    · cases hx
    · rename_i h1
      refine ⟨hx, ?_⟩
      cases hr : (finO d).rest with
      | nil => rfl
      | cons a r => exact absurd ⟨hx, by rw [hr]; simp <;> omega⟩ h1
  have hrun : ∀ k, (runO d k).e = 0 → (startO d).e = 0 ∧ (startO d).rest = partsB (runO d k).ps ++ (runO d k).rest := by
    intro k
    induction k with
    | zero => exact fun h => ⟨h, rfl⟩
    | succ k ih =>
      intro h
      obtain ⟨r1, r2, _⟩ := read_bytes (rest := (runO d k).rest) (e := (runO d k).e) (most := ((d.length : Nat) : Int)) h
      obtain ⟨i1, i2⟩ := ih r1
      refine ⟨i1, ?_⟩
      rw [i2]
      show _ = partsB ((runO d k).ps ++ [rdY _ _ _]) ++ rdYR _ _ _
      have e : partsB ((runO d k).ps ++ [rdY (runO d k).rest (runO d k).e ((d.length : Nat) : Int)]) = partsB (runO d k).ps ++ bytesB (rdY (runO d k).rest (runO d k).e ((d.length : Nat) : Int)) := by
        simp [partsB, List.flatMap_append]
      rw [e, List.append_assoc, ← r2]
  obtain ⟨s1, s2⟩ := hrun (cntO d) hX.1
  obtain ⟨_, c2, c3⟩ := read_cnt (rest := d.drop 1) (e := 0) (most := ((d.length : Nat) : Int)) s1
  have hps : (finO d).ps.length = cntO d := runO_ps d _
  have hT : opT d = d.getD 0 0 := if_pos ⟨hne, hx⟩
  have hP : opP d = (finO d).ps := if_pos ⟨hne, hx⟩
  have hr : (startO d).rest = partsB (finO d).ps := by
    rw [s2]
    show partsB (finO d).ps ++ (finO d).rest = _
    rw [hX.2, List.append_nil]
  have hd : d = d.getD 0 0 :: d.drop 1 := by cases d with
    | nil => exact absurd rfl hne
    | cons a r => rfl
  rw [hT, hP]
  conv => rhs; rw [hd, c2]
  show ofB _ _ = d.getD 0 0 :: (cntB ((cntO d : Nat) : Int) ++ (startO d).rest)
  rw [hr, ofB, hps]
  rfl

/-! ### Digests of digests -/

theorem leaf_len (s : UInt8) (a : List UInt8) : (ofB s [a]).length = 9 + a.length := by rw [ofB_len]; show 5 + (4 + a.length) = _; omega
theorem pair_len (s : UInt8) (a b : List UInt8) : (ofB s [a, b]).length = 13 + a.length + b.length := by rw [ofB_len]; show 5 + (4 + a.length) + (4 + b.length) = _; omega
theorem leaf_inj {s t : UInt8} {a b : List UInt8} (ha : a.length ≤ 1000000) (hb : b.length ≤ 1000000) : ofB s [a] = ofB t [b] ↔ s = t ∧ a = b := by
  rw [ofB_inj (by show 5 + (4 + a.length) ≤ _; omega) (by show 5 + (4 + b.length) ≤ _; omega)]
  simp
theorem pair_inj {s t : UInt8} {a b c d : List UInt8} (h1 : a.length ≤ 1000000000) (h2 : b.length ≤ 1000000000) (h3 : c.length ≤ 1000000000) (h4 : d.length ≤ 1000000000) : ofB s [a, b] = ofB t [c, d] ↔ s = t ∧ a = c ∧ b = d := by
  rw [ofB_inj (by show 5 + (4 + a.length) + (4 + b.length) ≤ _; omega) (by show 5 + (4 + c.length) + (4 + d.length) ≤ _; omega)]
  simp
theorem nests {s t : UInt8} {a b : List UInt8} (ha : a.length ≤ 2000) (hb : b.length ≤ 2000) : ofB t [ofB s [a], ofB s [b]] = ofB t [ofB s [b], ofB s [a]] ↔ a = b := by
  have h1 := leaf_len s a
  have h2 := leaf_len s b
  rw [pair_inj (by omega) (by omega) (by omega) (by omega), leaf_inj (by omega) (by omega), leaf_inj (by omega) (by omega)]
  exact ⟨fun h => h.2.1.2, fun h => ⟨rfl, ⟨rfl, h⟩, ⟨rfl, h.symm⟩⟩⟩
theorem open_pair {t : UInt8} {a b : List UInt8} (ha : a.length ≤ 1000000000) (hb : b.length ≤ 1000000000) : okO (ofB t [a, b]) ∧ opT (ofB t [a, b]) = t ∧ opP (ofB t [a, b]) = [a, b] := open_of (by show 5 + (4 + a.length) + (4 + b.length) ≤ _; omega)
theorem opP_len {d : List UInt8} (hd : d.length ≤ 20000) : (opP d).length ≤ 9223372036854775807 := by
  unfold opP
  split
  · show (runO d (cntO d)).ps.length ≤ _
    rw [runO_ps]
    have := cntO_le d
    omega
  · simp
end Go.Proofs.Ytacikihlgpnjhaa.Q
