import Derived.Test.YtacikihlgpnjhaaM02L
namespace Go.Proofs.Ytacikihlgpnjhaa.Q
set_option linter.unusedVariables false
set_option linter.unusedSimpArgs false
set_option maxRecDepth 100000

abbrev Lv := List (List UInt8)

theorem tmod_bd {a b : Int} (hb : 0 < b) : -b < a.tmod b ∧ a.tmod b < b := by
  have h1 := Int.tmod_lt_of_pos a hb
  refine ⟨?_, h1⟩
  have h2 := Int.tmod_lt_of_pos (-a) hb
  rw [Int.neg_tmod] at h2
  omega
theorem fewG_mono {α : Type} {sz : α → Nat} {n m m' : Nat} {l : List α} (h : fewG sz n m l) (hm : m ≤ m') : fewG sz n m' l := ⟨h.1, fun x hx => Nat.le_trans (h.2 x hx) hm⟩

/-! ### Powers of two below a number -/

def lenN (x : Nat) : Nat := if x = 0 then 0 else Nat.log2 x + 1
theorem lenN_pos {x : Nat} (h : 0 < x) : lenN x = Nat.log2 x + 1 := if_neg (by omega)
theorem log2_div {x s : Nat} (h : 2 ^ s ≤ x) : Nat.log2 x = s + Nat.log2 (x / 2 ^ s) := by
  have hp : 0 < 2 ^ s := Nat.pow_pos (by decide)
  have hq : x / 2 ^ s ≠ 0 := by have := Nat.div_pos h hp; omega
  have hx : x ≠ 0 := by omega
  rw [Nat.log2_eq_iff hx]
  have h1 := Nat.log2_self_le hq
  have h2 := @Nat.lt_log2_self (x / 2 ^ s)
  rw [Nat.pow_add, Nat.add_assoc, Nat.pow_add]
  have h3 := Nat.div_add_mod x (2 ^ s)
  have h4 := Nat.mod_lt x hp
  constructor
  · exact Nat.le_trans (Nat.mul_le_mul_left _ h1) (by omega)
  · have h5 : 2 ^ s * (x / 2 ^ s + 1) ≤ 2 ^ s * 2 ^ (Nat.log2 (x / 2 ^ s) + 1) := Nat.mul_le_mul_left _ h2
    rw [Nat.mul_add] at h5
    omega
theorem lenN_div {x s : Nat} (h : 2 ^ s ≤ x) : lenN x = s + lenN (x / 2 ^ s) := by
  have hp : 0 < 2 ^ s := Nat.pow_pos (by decide)
  have hq := Nat.div_pos h hp
  rw [lenN_pos (by omega), lenN_pos hq, log2_div h]
  omega
def half (n : Nat) : Nat := 2 ^ Nat.log2 (n - 1)
theorem half_lt {n : Nat} (h : 2 ≤ n) : half n < n := by
  have := Nat.log2_self_le (n := n - 1) (by omega)
  unfold half
  omega
theorem half_pos (n : Nat) : 0 < half n := Nat.pow_pos (by decide)
theorem half_ge {n : Nat} (h : 2 ≤ n) : n ≤ 2 * half n := by
  have := @Nat.lt_log2_self (n - 1)
  unfold half
  rw [Nat.pow_succ] at this
  omega
theorem half_of {n K : Nat} (hp : ∃ j, K = 2 ^ j) (h1 : K < n) (h2 : n ≤ 2 * K) : half n = K := by
  obtain ⟨j, rfl⟩ := hp
  unfold half
  have : Nat.log2 (n - 1) = j := by
    have hp : 0 < 2 ^ j := Nat.pow_pos (by decide)
    rw [Nat.log2_eq_iff (by omega), Nat.pow_succ]
    omega
  rw [this]
theorem half_sub {n : Nat} (h : 2 ≤ n) : n - half n ≤ half n := by have := half_ge h; omega
theorem half_le_pow {n f : Nat} (h : n ≤ 2 ^ (f + 1)) (h2 : 2 ≤ n) : half n ≤ 2 ^ f := by
  unfold half
  have h1 : Nat.log2 (n - 1) < f + 1 := (Nat.log2_lt (by omega)).2 (by omega)
  exact Nat.pow_le_pow_right (by decide) (by omega)

/-! ### Few leaves -/

theorem fewG_take {α : Type} {sz : α → Nat} {n m : Nat} {l : List α} (h : fewG sz n m l) (k : Nat) : fewG sz n m (l.take k) := ⟨by have := h.1; rw [List.length_take]; omega, fun x hx => h.2 x (List.mem_of_mem_take hx)⟩
theorem fewG_drop {α : Type} {sz : α → Nat} {n m : Nat} {l : List α} (h : fewG sz n m l) (k : Nat) : fewG sz n m (l.drop k) := ⟨by have := h.1; rw [List.length_drop]; omega, fun x hx => h.2 x (List.mem_of_mem_drop hx)⟩

/-! ### Roots -/

def rootF : Nat → Lv → List UInt8
  | 0, _ => ofB 4 []
  | f + 1, l => if l.length = 0 then ofB 4 [] else if l.length = 1 then ofB 2 [l.getD 0 []] else ofB 3 [rootF f (l.take (half l.length)), rootF f (l.drop (half l.length))]
def rootB (l : Lv) : List UInt8 := rootF l.length l
theorem rootF_eq : ∀ (f g : Nat) (l : Lv), l.length ≤ f → l.length ≤ g → rootF f l = rootF g l
  | 0, 0, _, _, _ => rfl
  | 0, g + 1, l, h, _ => by rw [rootF, rootF, if_pos (by omega)]
  | f + 1, 0, l, _, h => by rw [rootF, rootF, if_pos (by omega)]
  | f + 1, g + 1, l, h1, h2 => by
    rw [rootF, rootF]
    split
    · rfl
    · split
      · rfl
      · have hh := half_lt (n := l.length) (by omega)
        have hp := half_pos l.length
        rw [rootF_eq f g (l.take (half l.length)) (by rw [List.length_take]; omega) (by rw [List.length_take]; omega), rootF_eq f g (l.drop (half l.length)) (by rw [List.length_drop]; omega) (by rw [List.length_drop]; omega)]
theorem root_0 {l : Lv} (h : l.length = 0) : rootB l = ofB 4 [] := by unfold rootB; rw [h, rootF]
theorem root_1 {l : Lv} (h : l.length = 1) : rootB l = ofB 2 [l.getD 0 []] := by unfold rootB; rw [h, rootF, if_neg (by omega), if_pos h]
theorem root_2 {l : Lv} (h : 2 ≤ l.length) : rootB l = ofB 3 [rootB (l.take (half l.length)), rootB (l.drop (half l.length))] := by
  have hh := half_lt h
  have hp := half_pos l.length
  obtain ⟨f, hf⟩ : ∃ f, l.length = f + 1 := ⟨l.length - 1, by omega⟩
  unfold rootB
  rw [rootF_eq l.length (f + 1) l (by omega) (by omega), rootF, if_neg (by omega), if_neg (by omega)]
  rw [rootF_eq f _ (l.take (half l.length)) (by rw [List.length_take]; omega) (Nat.le_refl _), rootF_eq f _ (l.drop (half l.length)) (by rw [List.length_drop]; omega) (Nat.le_refl _)]
theorem root_len : ∀ (N : Nat) (l : Lv), l.length = N → 1 ≤ l.length → (∀ x, x ∈ l → x.length ≤ 600) → (rootB l).length + 13 ≤ 635 * l.length := by
  intro N
  induction N using Nat.strongRecOn with
  | _ N ih =>
    intro l hN h1 hx
    rcases Nat.lt_or_ge l.length 2 with h2 | h2
    · rw [root_1 (by omega), leaf_len]
      have := all_getD (z := []) hx (by decide) 0
      omega
    · have hh := half_lt h2
      have hp := half_pos l.length
      have h1 := ih (l.take (half l.length)).length (by rw [List.length_take]; omega) _ rfl (by rw [List.length_take]; omega) (fun x h => hx x (List.mem_of_mem_take h))
      have h3 := ih (l.drop (half l.length)).length (by rw [List.length_drop]; omega) _ rfl (by rw [List.length_drop]; omega) (fun x h => hx x (List.mem_of_mem_drop h))
      rw [root_2 h2, pair_len]
      rw [List.length_take] at h1
      rw [List.length_drop] at h3
      omega
theorem few_root {l : Lv} (hf : fewG szL 40 600 l) : (rootB l).length ≤ 25400 := by
  by_cases h0 : l.length = 0
  · rw [root_0 h0]; decide
  · have h1 := root_len _ l rfl (by omega) hf.2
    have := hf.1
    omega

/-! ### Of the code's numbers -/

def len8Tab : List UInt8 := [0, 1, 2, 2, 3, 3, 3, 3, 4, 4, 4, 4, 4, 4, 4, 4, 5, 5, 5, 5, 5, 5, 5, 5, 5, 5, 5, 5, 5, 5, 5, 5, 6, 6, 6, 6, 6, 6, 6, 6, 6, 6, 6, 6, 6, 6, 6, 6, 6, 6, 6, 6, 6, 6, 6, 6, 6, 6, 6, 6, 6, 6, 6, 6, 7, 7, 7, 7, 7, 7, 7, 7, 7, 7, 7, 7, 7, 7, 7, 7, 7, 7, 7, 7, 7, 7, 7, 7, 7, 7, 7, 7, 7, 7, 7, 7, 7, 7, 7, 7, 7, 7, 7, 7, 7, 7, 7, 7, 7, 7, 7, 7, 7, 7, 7, 7, 7, 7, 7, 7, 7, 7, 7, 7, 7, 7, 7, 7, 8, 8, 8, 8, 8, 8, 8, 8, 8, 8, 8, 8, 8, 8, 8, 8, 8, 8, 8, 8, 8, 8, 8, 8, 8, 8, 8, 8, 8, 8, 8, 8, 8, 8, 8, 8, 8, 8, 8, 8, 8, 8, 8, 8, 8, 8, 8, 8, 8, 8, 8, 8, 8, 8, 8, 8, 8, 8, 8, 8, 8, 8, 8, 8, 8, 8, 8, 8, 8, 8, 8, 8, 8, 8, 8, 8, 8, 8, 8, 8, 8, 8, 8, 8, 8, 8, 8, 8, 8, 8, 8, 8, 8, 8, 8, 8, 8, 8, 8, 8, 8, 8, 8, 8, 8, 8, 8, 8, 8, 8, 8, 8, 8, 8, 8, 8, 8, 8, 8, 8, 8, 8, 8, 8, 8, 8, 8, 8]
theorem len8_len : len8Tab.length = 256 := rfl
theorem len8_all : ∀ x, x < 256 → (len8Tab.getD x 0).toNat = lenN x := by decide +kernel
theorem len8 {x : Nat} (h : x < 256) : (len8Tab.getD (UInt8.ofNat x).toNat 0).toNat = lenN x := by
  have : (UInt8.ofNat x).toNat = x := by rw [UInt8.toNat_ofNat']; omega
  rw [this]
  exact len8_all x h
theorem log_le {n : Nat} (h : n ≤ 9223372036854775807) (h2 : 2 ≤ n) : Nat.log2 (n - 1) ≤ 62 := by
  have h1 : Nat.log2 (n - 1) < 63 := (Nat.log2_lt (by omega)).2 (by have : (2 : Nat) ^ 63 = 9223372036854775808 := (by decide); omega)
  omega
theorem shl_half {n : Nat} (h : n ≤ 9223372036854775807) (h2 : 2 ≤ n) : IntKind.i64.wrap (1 * 2 ^ Nat.log2 (n - 1)) = ((half n : Nat) : Int) := by
  have h1 := half_lt h2
  have h3 : (1 : Int) * 2 ^ Nat.log2 (n - 1) = ((half n : Nat) : Int) := by unfold half; simp
  rw [h3, IntKind.wrap_i64]
  omega

/-! ### Roots apart -/

theorem root_inj : ∀ (N : Nat) (l m : Lv), l.length = N → m.length = N → fewG szL 40 600 l → fewG szL 40 600 m → rootB l = rootB m → l = m := by
  intro N
  induction N using Nat.strongRecOn with
  | _ N ih =>
    intro l m hl hm fl fm he
    rcases Nat.lt_or_ge N 2 with h2 | h2
    · rcases Nat.eq_zero_or_pos N with h0 | h0
      · rw [List.eq_nil_of_length_eq_zero (by omega : l.length = 0), List.eq_nil_of_length_eq_zero (by omega : m.length = 0)]
      · rw [root_1 (by omega), root_1 (by omega)] at he
        have g1 := fewG_get (z := ([] : List UInt8)) fl (by decide) 0
        have g2 := fewG_get (z := ([] : List UInt8)) fm (by decide) 0
        have e := ((leaf_inj (show (l.getD 0 []).length ≤ 1000000 by have : (l.getD 0 []).length ≤ 600 := g1; omega) (show (m.getD 0 []).length ≤ 1000000 by have : (m.getD 0 []).length ≤ 600 := g2; omega)).1 he).2
        refine rows_eq (z := []) (k := 1) (by omega) (by omega) fun j hj => ?_
        obtain rfl : j = 0 := by omega
        exact e
    · have hh := half_lt h2
      have hp := half_pos N
      rw [root_2 (l := l) (by omega), root_2 (l := m) (by omega), hl, hm] at he
      have a1 := few_root (fewG_take fl (half N))
      have a2 := few_root (fewG_drop fl (half N))
      have a3 := few_root (fewG_take fm (half N))
      have a4 := few_root (fewG_drop fm (half N))
      obtain ⟨_, e1, e2⟩ := (pair_inj (by omega) (by omega) (by omega) (by omega)).1 he
      have e3 := ih (half N) hh (l.take (half N)) (m.take (half N)) (by rw [List.length_take]; omega) (by rw [List.length_take]; omega) (fewG_take fl _) (fewG_take fm _) e1
      have e4 := ih (N - half N) (by omega) (l.drop (half N)) (m.drop (half N)) (by rw [List.length_drop]; omega) (by rw [List.length_drop]; omega) (fewG_drop fl _) (fewG_drop fm _) e2
      rw [← List.take_append_drop (half N) l, ← List.take_append_drop (half N) m, e3, e4]
end Go.Proofs.Ytacikihlgpnjhaa.Q
