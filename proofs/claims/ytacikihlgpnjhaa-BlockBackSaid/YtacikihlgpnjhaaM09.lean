import Derived.Test.YtacikihlgpnjhaaM09A
namespace Go.Proofs.Ytacikihlgpnjhaa.Q
set_option linter.unusedVariables false
set_option linter.unusedSimpArgs false
set_option maxRecDepth 100000

abbrev Step := api_Step
abbrev zS := z_api_Step

/-! ### Paths -/

def pathF : Nat → Lv → Nat → List Step
  | 0, _, _ => []
  | f + 1, l, i => if l.length < 2 then [] else if i < half l.length then pathF f (l.take (half l.length)) i ++ [⟨false, rootB (l.drop (half l.length))⟩] else pathF f (l.drop (half l.length)) (i - half l.length) ++ [⟨true, rootB (l.take (half l.length))⟩]
def pathN (l : Lv) (i : Nat) : List Step := pathF l.length l i
theorem pathF_eq : ∀ (f g : Nat) (l : Lv) (i : Nat), l.length ≤ f → l.length ≤ g → pathF f l i = pathF g l i
  | 0, 0, _, _, _, _ => rfl
  | 0, g + 1, l, i, h, _ => by rw [pathF, pathF, if_pos (by omega)]
  | f + 1, 0, l, i, _, h => by rw [pathF, pathF, if_pos (by omega)]
  | f + 1, g + 1, l, i, h1, h2 => by
    rw [pathF, pathF]
    split
    · rfl
    · have hh := half_lt (n := l.length) (by omega)
      have hp := half_pos l.length
      rw [pathF_eq f g (l.take (half l.length)) i (by rw [List.length_take]; omega) (by rw [List.length_take]; omega), pathF_eq f g (l.drop (half l.length)) _ (by rw [List.length_drop]; omega) (by rw [List.length_drop]; omega)]
theorem path_1 {l : Lv} (h : l.length < 2) (i : Nat) : pathN l i = [] := by
  unfold pathN
  cases hl : l.length with
  | zero => rfl
  | succ f => rw [pathF, if_pos h]
theorem path_2 {l : Lv} (h : 2 ≤ l.length) (i : Nat) : pathN l i = if i < half l.length then pathN (l.take (half l.length)) i ++ [⟨false, rootB (l.drop (half l.length))⟩] else pathN (l.drop (half l.length)) (i - half l.length) ++ [⟨true, rootB (l.take (half l.length))⟩] := by
  have hh := half_lt h
  have hp := half_pos l.length
  obtain ⟨f, hf⟩ : ∃ f, l.length = f + 1 := ⟨l.length - 1, by omega⟩
  unfold pathN
  rw [pathF_eq l.length (f + 1) l i (by omega) (by omega), pathF, if_neg (by omega)]
  rw [pathF_eq f _ (l.take (half l.length)) i (by rw [List.length_take]; omega) (Nat.le_refl _), pathF_eq f _ (l.drop (half l.length)) _ (by rw [List.length_drop]; omega) (Nat.le_refl _)]
theorem path_l {l : Lv} (h : 2 ≤ l.length) {i : Nat} (hi : i < half l.length) : pathN l i = pathN (l.take (half l.length)) i ++ [⟨false, rootB (l.drop (half l.length))⟩] := by rw [path_2 h, if_pos hi]
theorem path_r {l : Lv} (h : 2 ≤ l.length) {i : Nat} (hi : ¬ i < half l.length) : pathN l i = pathN (l.drop (half l.length)) (i - half l.length) ++ [⟨true, rootB (l.take (half l.length))⟩] := by rw [path_2 h, if_neg hi]
def okI (l : Lv) (i : Int) : Prop := 0 ≤ i ∧ i < ((l.length : Nat) : Int)
instance (l : Lv) (i : Int) : Decidable (okI l i) := inferInstanceAs (Decidable (_ ∧ _))
def pathB (l : Lv) (i : Int) : List Step := if okI l i then pathN l i.toNat else []
def pathE (l : Lv) (i : Int) : Int := if okI l i then 0 else 2
theorem path_lenle : ∀ (N : Nat) (l : Lv) (i : Nat), l.length = N → (pathN l i).length ≤ l.length := by
  intro N
  induction N using Nat.strongRecOn with
  | _ N ih =>
    intro l i hN
    rcases Nat.lt_or_ge l.length 2 with h2 | h2
    · rw [path_1 h2]; simp
    · have hh := half_lt h2
      have hp := half_pos l.length
      by_cases hi : i < half l.length
      · have h1 := ih (l.take (half l.length)).length (by rw [List.length_take]; omega) (l.take (half l.length)) i rfl
        rw [path_l h2 hi, List.length_append, List.length_singleton]
        rw [List.length_take] at h1
        omega
      · have h1 := ih (l.drop (half l.length)).length (by rw [List.length_drop]; omega) (l.drop (half l.length)) (i - half l.length) rfl
        rw [path_r h2 hi, List.length_append, List.length_singleton]
        rw [List.length_drop] at h1
        omega

/-! ### The sides -/

def sidesF : Nat → Nat → Nat → List Bool
  | 0, _, _ => []
  | f + 1, i, n => if n < 2 then [] else if i < half n then sidesF f i (half n) ++ [false] else sidesF f (i - half n) (n - half n) ++ [true]
def sidesN (i n : Nat) : List Bool := sidesF 64 i n
theorem sidesF_eq : ∀ (f g i n : Nat), n ≤ 2 ^ f → n ≤ 2 ^ g → sidesF f i n = sidesF g i n
  | 0, 0, _, _, _, _ => rfl
  | 0, g + 1, i, n, h, _ => by rw [sidesF, sidesF, if_pos (by have : n ≤ 1 := h; omega)]
  | f + 1, 0, i, n, _, h => by rw [sidesF, sidesF, if_pos (by have : n ≤ 1 := h; omega)]
  | f + 1, g + 1, i, n, h1, h2 => by
    rw [sidesF, sidesF]
    split
    · rfl
    · rename_i hn
      have a1 := half_le_pow h1 (by omega)
      have a2 := half_le_pow h2 (by omega)
      have a3 := half_sub (n := n) (by omega)
      rw [sidesF_eq f g i (half n) a1 a2, sidesF_eq f g (i - half n) (n - half n) (by omega) (by omega)]
theorem sides_1 {n : Nat} (h : n < 2) (i : Nat) : sidesN i n = [] := by unfold sidesN; rw [sidesF, if_pos h]
theorem sides_2 {n : Nat} (h : 2 ≤ n) (hn : n ≤ 9223372036854775807) (i : Nat) : sidesN i n = if i < half n then sidesN i (half n) ++ [false] else sidesN (i - half n) (n - half n) ++ [true] := by
  unfold sidesN
  have hp : (2 : Nat) ^ 63 = 9223372036854775808 := by decide
  have hq : (2 : Nat) ^ 64 = 18446744073709551616 := by decide
  have a1 := half_le_pow (n := n) (f := 63) (by omega) h
  have a3 := half_sub h
  rw [sidesF, if_neg (by omega), sidesF_eq 63 64 i (half n) a1 (by omega), sidesF_eq 63 64 (i - half n) (n - half n) (by omega) (by omega)]
theorem sides_l {n i : Nat} (h : 2 ≤ n) (hn : n ≤ 9223372036854775807) (hi : i < half n) : sidesN i n = sidesN i (half n) ++ [false] := by rw [sides_2 h hn, if_pos hi]
theorem sides_r {n i : Nat} (h : 2 ≤ n) (hn : n ≤ 9223372036854775807) (hi : ¬ i < half n) : sidesN i n = sidesN (i - half n) (n - half n) ++ [true] := by rw [sides_2 h hn, if_neg hi]
theorem sidesF_len : ∀ (f i n : Nat), (sidesF f i n).length ≤ f
  | 0, _, _ => Nat.le_refl _
  | f + 1, i, n => by
    rw [sidesF]
    split
    · simp
    · split
      · rw [List.length_append, List.length_singleton]; have := sidesF_len f i (half n); omega
      · rw [List.length_append, List.length_singleton]; have := sidesF_len f (i - half n) (n - half n); omega
theorem sides_len (i n : Nat) : (sidesN i n).length ≤ 64 := sidesF_len 64 i n

/-! ### Checking -/

def climb1 (d : List UInt8) (s : Step) : List UInt8 := if s.f_Left = true then ofB 3 [s.f_Digest, d] else ofB 3 [d, s.f_Digest]
def climb (d : List UInt8) (p : List Step) : List UInt8 := p.foldl climb1 d
def checkM (root leaf : List UInt8) (i n : Int) (p : List Step) : Int :=
  if i < 0 ∨ i ≥ n then 2 else if p.map (fun s => s.f_Left) = sidesN i.toNat n.toNat then (if climb (ofB 2 [leaf]) p = root then 0 else 90) else 90
def szS (s : Step) : Nat := s.f_Digest.length
theorem climb_len {p : List Step} {m : Nat} (h : ∀ s, s ∈ p → szS s ≤ m) : ∀ (d : List UInt8), (climb d p).length ≤ d.length + (13 + m) * p.length := by
  induction p with
  | nil => intro d; simp [climb]
  | cons s r ih =>
    intro d
    have h1 := ih (fun x hx => h x (List.mem_cons_of_mem _ hx)) (climb1 d s)
    have h2 : s.f_Digest.length ≤ m := h s (List.mem_cons_self ..)
    have h3 : (climb1 d s).length ≤ d.length + (13 + m) := by
      unfold climb1
      split <;> rw [pair_len] <;> omega
    show (climb (climb1 d s) r).length ≤ _
    rw [List.length_cons, Nat.mul_succ]
    omega
theorem climb_take {p : List Step} {k : Nat} (d : List UInt8) (hk : k < p.length) : climb d (p.take (k + 1)) = climb1 (climb d (p.take k)) (p.getD k zS) := foldl_succ hk

/-! ### Turned round -/

def revI {α : Type} (z : α) (l : List α) (i : Nat) (ys : List α) : Prop := ys.length = l.length ∧ ∀ t, t < l.length → ys.getD t z = if t < i ∨ l.length ≤ t + i then l.getD (l.length - 1 - t) z else l.getD t z
theorem rev_0 {α : Type} (z : α) (l : List α) : revI z l 0 l := ⟨rfl, fun t ht => by rw [if_neg (by omega)]⟩
theorem getD_set {α : Type} {z v : α} {l : List α} {i t : Nat} (hi : i < l.length) : (l.set i v).getD t z = if t = i then v else l.getD t z := by
  rw [List.getD_eq_getElem?_getD, List.getElem?_set]
  by_cases h : i = t
  · subst h; simp [hi]
  · rw [if_neg h, if_neg (fun e => h e.symm), List.getD_eq_getElem?_getD]
theorem rev_step {α : Type} {z : α} {l ys : List α} {i j : Nat} (h : revI z l i ys) (hij : i < j) (hj : j + 1 + i = l.length) : revI z l (i + 1) ((ys.set i (ys.getD j z)).set j (ys.getD i z)) := by
  obtain ⟨h1, h2⟩ := h
  refine ⟨by simp [h1], fun t ht => ?_⟩
  rw [getD_set (by simp; omega), getD_set (by omega)]
  by_cases e1 : t = j
  · subst e1
    rw [if_pos rfl, if_pos (by omega), h2 i (by omega), if_neg (by omega)]
    congr 1
    omega
  · rw [if_neg e1]
    by_cases e2 : t = i
    · subst e2
      rw [if_pos rfl, if_pos (by omega), h2 j (by omega), if_neg (by omega)]
      congr 1
      omega
    · rw [if_neg e2, h2 t ht]
      by_cases e3 : t < i ∨ l.length ≤ t + i
      · rw [if_pos e3, if_pos (by omega)]
      · rw [if_neg e3, if_neg (by omega)]
theorem rev_end {α : Type} {z : α} {l ys : List α} {i : Nat} (h : revI z l i ys) (hi : l.length ≤ 2 * i + 1) : ys = l.reverse := by
  obtain ⟨h1, h2⟩ := h
  refine List.ext_getElem (by simp [h1]) fun t a1 a2 => ?_
  have h3 := h2 t (by omega)
  rw [List.getElem_reverse]
  have h4 : ys.getD t z = ys[t] := by rw [List.getD_eq_getElem?_getD, List.getElem?_eq_getElem a1]; rfl
  rw [← h4, h3]
  split
  · rw [List.getD_eq_getElem?_getD, List.getElem?_eq_getElem (by omega)]; rfl
  · have h5 : t = l.length - 1 - t := by omega
    rw [List.getD_eq_getElem?_getD, List.getElem?_eq_getElem (by omega)]
    simp only [Option.getD_some]
    congr 1

/-! ### Steps of the walks -/

theorem path_stepl {l X : Lv} {i j : Nat} {D : List Step} (he : pathN l i = pathN X j ++ D.reverse) (h2 : 2 ≤ X.length) (hj : j < half X.length) : pathN l i = pathN (X.take (half X.length)) j ++ (D ++ [api_Step.mk false (rootB (X.drop (half X.length)))]).reverse := by
  rw [he, path_l h2 hj]; simp
theorem path_stepr {l X : Lv} {i j : Nat} {D : List Step} (he : pathN l i = pathN X j ++ D.reverse) (h2 : 2 ≤ X.length) (hj : ¬ j < half X.length) : pathN l i = pathN (X.drop (half X.length)) (j - half X.length) ++ (D ++ [api_Step.mk true (rootB (X.take (half X.length)))]).reverse := by
  rw [he, path_r h2 hj]; simp
theorem path_end {l X : Lv} {i j : Nat} {D : List Step} (he : pathN l i = pathN X j ++ D.reverse) (h : X.length < 2) : D.reverse = pathN l i := by rw [he, path_1 h]; rfl
theorem sides_stepl {i n j m : Nat} {D : List Bool} (he : sidesN i n = sidesN j m ++ D.reverse) (h2 : 2 ≤ m) (hm : m ≤ 9223372036854775807) (hj : j < half m) : sidesN i n = sidesN j (half m) ++ (D ++ [false]).reverse := by
  rw [he, sides_l h2 hm hj]; simp
theorem sides_stepr {i n j m : Nat} {D : List Bool} (he : sidesN i n = sidesN j m ++ D.reverse) (h2 : 2 ≤ m) (hm : m ≤ 9223372036854775807) (hj : ¬ j < half m) : sidesN i n = sidesN (j - half m) (m - half m) ++ (D ++ [true]).reverse := by
  rw [he, sides_r h2 hm hj]; simp
theorem sides_end {i n j m : Nat} {D : List Bool} (he : sidesN i n = sidesN j m ++ D.reverse) (h : m < 2) : D.reverse = sidesN i n := by rw [he, sides_1 h]; rfl
theorem sides_D {i n j m : Nat} {D : List Bool} (he : sidesN i n = sidesN j m ++ D.reverse) : D.length ≤ 64 := by
  have h1 := congrArg List.length he
  have h2 := sides_len i n
  rw [List.length_append, List.length_reverse] at h1
  omega

section
variable {root leaf : List UInt8} {i n : Int} {p : List Step} {k : Nat}
theorem chk_range (h : i < 0 ∨ i ≥ n) : checkM root leaf i n p = 2 := if_pos h
theorem chk_len (h0 : ¬ (i < 0 ∨ i ≥ n)) (h : ¬ (sidesN i.toNat n.toNat).length = p.length) : checkM root leaf i n p = 90 := by
  rw [checkM, if_neg h0, if_neg fun e => h (by rw [← e, List.length_map])]
theorem chk_at (h0 : ¬ (i < 0 ∨ i ≥ n)) (hk : k < p.length) (h : (p.getD k zS).f_Left ≠ (sidesN i.toNat n.toNat).getD k false) : checkM root leaf i n p = 90 := by
  rw [checkM, if_neg h0, if_neg fun e => h ?_]
  rw [← e, List.getD_eq_getElem?_getD, List.getD_eq_getElem?_getD, List.getElem?_map, List.getElem?_eq_getElem hk]
  rfl
theorem chk_end (h0 : ¬ (i < 0 ∨ i ≥ n)) (hl : (sidesN i.toNat n.toNat).length = p.length) (hk : p.length ≤ k) (hb : ∀ t, t < k → (p.getD t zS).f_Left = (sidesN i.toNat n.toNat).getD t false) : checkM root leaf i n p = if climb (ofB 2 [leaf]) (p.take k) = root then 0 else 90 := by
  have e : p.map (fun s => s.f_Left) = sidesN i.toNat n.toNat := by
    refine rows_eq (z := false) (k := p.length) (by rw [List.length_map, hl]) (by rw [List.length_map]; omega) fun j hj => ?_
    rw [← hb j (by omega), List.getD_eq_getElem?_getD, List.getD_eq_getElem?_getD, List.getElem?_map, List.getElem?_eq_getElem hj]
    rfl
  rw [checkM, if_neg h0, if_pos e, List.take_of_length_le hk]
end
end Go.Proofs.Ytacikihlgpnjhaa.Q
