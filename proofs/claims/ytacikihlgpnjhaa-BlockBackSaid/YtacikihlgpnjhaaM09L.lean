import Derived.Test.YtacikihlgpnjhaaM09
namespace Go.Proofs.Ytacikihlgpnjhaa.Q
set_option linter.unusedVariables false
set_option linter.unusedSimpArgs false
set_option maxRecDepth 100000

/-! ### What a path proves -/

theorem climb_app (d : List UInt8) (p : List Step) (s : Step) : climb d (p ++ [s]) = climb1 (climb d p) s := by unfold climb; rw [List.foldl_append]; rfl
theorem getD_take {α : Type} {z : α} {l : List α} {j k : Nat} (h : j < k) : (l.take k).getD j z = l.getD j z := by
  rw [List.getD_eq_getElem?_getD, List.getD_eq_getElem?_getD, List.getElem?_take_of_lt h]
theorem getD_drop {α : Type} {z : α} {l : List α} {j k : Nat} : (l.drop k).getD j z = l.getD (k + j) z := by
  rw [List.getD_eq_getElem?_getD, List.getD_eq_getElem?_getD, List.getElem?_drop]
theorem path_proves : ∀ (N : Nat) (l : Lv) (j : Nat), l.length = N → N ≤ 9223372036854775807 → j < N → (pathN l j).map (fun s => s.f_Left) = sidesN j N ∧ climb (ofB 2 [l.getD j []]) (pathN l j) = rootB l := by
  intro N
  induction N using Nat.strongRecOn with
  | _ N ih =>
    intro l j hN hN2 hj
    subst hN
    rcases Nat.lt_or_ge l.length 2 with h2 | h2
    · obtain rfl : j = 0 := by omega
      rw [path_1 h2, sides_1 h2, root_1 (by omega)]
      exact ⟨rfl, rfl⟩
    · have hh := half_lt h2
      have hp := half_pos l.length
      have lt : (l.take (half l.length)).length = half l.length := by rw [List.length_take]; omega
      have ld : (l.drop (half l.length)).length = l.length - half l.length := List.length_drop
      by_cases hi : j < half l.length
      · obtain ⟨a, b⟩ := ih (half l.length) hh (l.take (half l.length)) j lt (by omega) hi
        rw [path_l h2 hi, sides_l h2 hN2 hi, List.map_append, a, climb_app, root_2 h2]
        rw [getD_take hi] at b
        rw [b]
        exact ⟨rfl, rfl⟩
      · obtain ⟨a, b⟩ := ih (l.length - half l.length) (by omega) (l.drop (half l.length)) (j - half l.length) ld (by omega) (by omega)
        rw [path_r h2 hi, sides_r h2 hN2 hi, List.map_append, a, climb_app, root_2 h2]
        rw [getD_drop, show half l.length + (j - half l.length) = j by omega] at b
        rw [b]
        exact ⟨rfl, rfl⟩
theorem pathE_ok {l : Lv} {j : Nat} (h : j < l.length) : pathE l ((j : Nat) : Int) = 0 := if_pos ⟨by omega, by omega⟩
theorem pathB_ok {l : Lv} {j : Nat} (h : j < l.length) : pathB l ((j : Nat) : Int) = pathN l j := by rw [pathB, if_pos ⟨by omega, by omega⟩]; rfl
theorem proves_ok {l : Lv} {j : Nat} (hl : l.length ≤ 40) (h : j < l.length) : checkM (rootB l) (l.getD j []) ((j : Nat) : Int) ((l.length : Nat) : Int) (pathB l ((j : Nat) : Int)) = 0 := by
  obtain ⟨a, b⟩ := path_proves l.length l j rfl (by omega) h
  rw [pathB_ok h, checkM, if_neg (by omega), if_pos (by rw [a]; rfl), if_pos b]
theorem few_path {l : Lv} (hf : fewG szL 40 600 l) (i : Int) : fewG szS 70 30000 (pathB l i) := by
  have key : ∀ (N : Nat) (l : Lv) (j : Nat), l.length = N → fewG szL 40 600 l → ∀ s, s ∈ pathN l j → szS s ≤ 30000 := by
    intro N
    induction N using Nat.strongRecOn with
    | _ N ih =>
      intro l j hN hf s hs
      rcases Nat.lt_or_ge l.length 2 with h2 | h2
      · rw [path_1 h2] at hs; cases hs
      · have hh := half_lt h2
        have hp := half_pos l.length
        by_cases hi : j < half l.length
        · rw [path_l h2 hi, List.mem_append] at hs
          rcases hs with hs | hs
          · exact ih _ (by rw [List.length_take]; omega) (l.take (half l.length)) j rfl (fewG_take hf _) s hs
          · obtain rfl := List.mem_singleton.1 hs
            have := few_root (fewG_drop hf (half l.length))
            show (rootB (l.drop (half l.length))).length ≤ 30000
            omega
        · rw [path_r h2 hi, List.mem_append] at hs
          rcases hs with hs | hs
          · exact ih _ (by rw [List.length_drop]; omega) (l.drop (half l.length)) (j - half l.length) rfl (fewG_drop hf _) s hs
          · obtain rfl := List.mem_singleton.1 hs
            have := few_root (fewG_take hf (half l.length))
            show (rootB (l.take (half l.length))).length ≤ 30000
            omega
  unfold pathB
  split
  · exact ⟨by have := path_lenle _ l i.toNat rfl; have := hf.1; omega, key _ l _ rfl hf⟩
  · exact ⟨by simp, fun s h => by cases h⟩

/-! ### How long a path is -/

theorem path_short : ∀ (d : Nat) (l : Lv) (j : Nat), (l.length ≤ 2 ^ d → (pathN l j).length ≤ d) ∧ (l.length = 2 ^ d → j < l.length → (pathN l j).length = d) := by
  intro d
  induction d with
  | zero =>
    intro l j
    refine ⟨fun h => ?_, fun h _ => ?_⟩
    · rw [path_1 (by have : l.length ≤ 1 := h; omega)]; simp
    · rw [path_1 (by have : l.length = 1 := h; omega)]; rfl
  | succ d ih =>
    intro l j
    have hp2 : 0 < 2 ^ d := Nat.pow_pos (by decide)
    rcases Nat.lt_or_ge l.length 2 with h2 | h2
    · refine ⟨fun _ => by rw [path_1 h2]; simp, fun h _ => ?_⟩
      rw [Nat.pow_succ] at h
      omega
    · have hh := half_lt h2
      have hge := half_ge h2
      have lt : (l.take (half l.length)).length = half l.length := by rw [List.length_take]; omega
      have ld : (l.drop (half l.length)).length = l.length - half l.length := List.length_drop
      refine ⟨fun h => ?_, fun h hj => ?_⟩
      · have h9 := half_le_pow h h2
        by_cases hi : j < half l.length
        · rw [path_l h2 hi, List.length_append, List.length_singleton]
          have := (ih (l.take (half l.length)) j).1 (by omega)
          omega
        · rw [path_r h2 hi, List.length_append, List.length_singleton]
          have := (ih (l.drop (half l.length)) (j - half l.length)).1 (by omega)
          omega
      · have h9 : half l.length = 2 ^ d := half_of ⟨d, rfl⟩ (by rw [h, Nat.pow_succ]; omega) (by rw [h, Nat.pow_succ]; omega)
        rw [Nat.pow_succ] at h
        by_cases hi : j < half l.length
        · rw [path_l h2 hi, List.length_append, List.length_singleton]
          have := (ih (l.take (half l.length)) j).2 (by omega) (by omega)
          omega
        · rw [path_r h2 hi, List.length_append, List.length_singleton]
          have := (ih (l.drop (half l.length)) (j - half l.length)).2 (by omega) (by omega)
          omega

/-! ### Roots apart -/

theorem apart_ok {l : Lv} {j : Nat} {x : List UInt8} (hf : fewG szL 40 600 l) (hx : x.length ≤ 600) (hj : j < l.length) : rootB l = rootB (l.set j x) ↔ l.getD j [] = x := by
  constructor
  · intro he
    have e := root_inj l.length l (l.set j x) rfl (by rw [List.length_set]) hf (fewG_set hf hx) he
    rw [e, List.getD_eq_getElem?_getD, List.getElem?_set_self hj]
    rfl
  · intro he
    have : l.set j x = l := by
      refine rows_eq (z := []) (k := l.length) (by rw [List.length_set]) (by rw [List.length_set]; omega) fun t ht => ?_
      rw [getD_set hj]
      by_cases e : t = j
      · rw [if_pos e, e, he]
      · rw [if_neg e]
    rw [this]

/-! ### Nothing else is proved -/

theorem sound : ∀ (N : Nat) (l : Lv) (j : Nat) (leaf : List UInt8) (p : List Step), l.length = N → fewG szL 40 600 l → leaf.length ≤ 600 → p.length ≤ 70 → (∀ s, s ∈ p → szS s ≤ 5000) → j < N →
    p.map (fun s => s.f_Left) = sidesN j N → climb (ofB 2 [leaf]) p = rootB l → l.getD j [] = leaf ∧ p = pathN l j := by
  intro N
  induction N using Nat.strongRecOn with
  | _ N ih =>
    intro l j leaf p hl hf hle hp hs hj hm he
    have h40 := hf.1
    rcases Nat.lt_or_ge N 2 with h2 | h2
    · obtain rfl : j = 0 := by omega
      rw [sides_1 h2] at hm
      obtain rfl : p = [] := List.map_eq_nil_iff.1 hm
      rw [root_1 (by omega)] at he
      have g1 : (l.getD 0 []).length ≤ 600 := fewG_get (sz := szL) (z := []) hf (by decide) 0
      have e := ((leaf_inj (by omega) (by omega)).1 he).2
      exact ⟨e.symm, (path_1 (by omega) 0).symm⟩
    · have hh := half_lt h2
      have hpo := half_pos N
      have lt : (l.take (half N)).length = half N := by rw [List.length_take]; omega
      have ld : (l.drop (half N)).length = N - half N := by rw [List.length_drop]; omega
      have a1 := few_root (fewG_take hf (half N))
      have a2 := few_root (fewG_drop hf (half N))
      have hne : p ≠ [] := fun e => by
        rw [e] at hm
        have h9 := congrArg List.length hm
        rw [sides_2 h2 (by omega)] at h9
        by_cases hi : j < half N
        · rw [if_pos hi] at h9; simp at h9
        · rw [if_neg hi] at h9; simp at h9
      obtain ⟨q, s, rfl⟩ : ∃ q s, p = q ++ [s] := ⟨p.dropLast, p.getLast hne, (List.dropLast_concat_getLast hne).symm⟩
      rw [List.length_append, List.length_singleton] at hp
      have hq : ∀ x, x ∈ q → szS x ≤ 5000 := fun x h => hs x (List.mem_append_left _ h)
      have hsz : s.f_Digest.length ≤ 5000 := hs s (List.mem_append_right _ (List.mem_singleton.2 rfl))
      have hc := climb_len hq (ofB 2 [leaf])
      rw [leaf_len] at hc
      rw [climb_app, root_2 (by omega), hl] at he
      rw [List.map_append, sides_2 h2 (by omega)] at hm
      unfold climb1 at he
      by_cases hi : j < half N
      · rw [if_pos hi] at hm
        obtain ⟨m1, m2⟩ := List.append_inj' hm rfl
        have hsl : s.f_Left = false := by simpa using m2
        rw [if_neg (by rw [hsl]; decide)] at he
        obtain ⟨_, e1, e2⟩ := (pair_inj (by omega) (by omega) (by omega) (by omega)).1 he
        obtain ⟨r1, r2⟩ := ih (half N) hh (l.take (half N)) j leaf q lt (fewG_take hf _) hle (by omega) hq hi m1 e1
        rw [getD_take hi] at r1
        refine ⟨r1, ?_⟩
        subst hl
        rw [path_l h2 hi, ← r2, ← e2, ← hsl]
      · rw [if_neg hi] at hm
        obtain ⟨m1, m2⟩ := List.append_inj' hm rfl
        have hsl : s.f_Left = true := by simpa using m2
        rw [if_pos hsl] at he
        obtain ⟨_, e1, e2⟩ := (pair_inj (by omega) (by omega) (by omega) (by omega)).1 he
        obtain ⟨r1, r2⟩ := ih (N - half N) (by omega) (l.drop (half N)) (j - half N) leaf q ld (fewG_drop hf _) hle (by omega) hq (by omega) m1 e2
        rw [getD_drop, show half N + (j - half N) = j by omega] at r1
        refine ⟨r1, ?_⟩
        subst hl
        rw [path_r h2 hi, ← r2, ← e1, ← hsl]
theorem sound_ok {l : Lv} {leaf : List UInt8} {i : Int} {p : List Step} (hf : fewG szL 40 600 l) (hle : leaf.length ≤ 600) (hp : fewG szS 70 5000 p) (h : checkM (rootB l) leaf i ((l.length : Nat) : Int) p = 0) : 0 ≤ i ∧ i < ((l.length : Nat) : Int) ∧ l.getD i.toNat [] = leaf ∧ pathB l i = p ∧ pathE l i = 0 := by
  unfold checkM at h
  split at h
  · exact absurd h (by decide)
  · rename_i hr
    split at h
    · rename_i hm
      split at h
      · rename_i he
        have ho : okI l i := ⟨by omega, by omega⟩
        obtain ⟨a, b⟩ := sound l.length l i.toNat leaf p rfl hf hle hp.1 hp.2 (by omega) hm he
        exact ⟨by omega, by omega, a, by rw [pathB, if_pos ho, b], by rw [pathE, if_pos ho]⟩
      · exact absurd h (by decide)
    · exact absurd h (by decide)
end Go.Proofs.Ytacikihlgpnjhaa.Q
