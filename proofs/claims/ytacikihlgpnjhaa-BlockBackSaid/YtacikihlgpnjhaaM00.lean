import Derived.Test.YtacikihlgpnjhaaK10
namespace Go.Proofs.Ytacikihlgpnjhaa.Q
set_option linter.unusedVariables false
set_option linter.unusedSimpArgs false

/-! ### Rows -/

theorem tk_succ {α : Type} {z : α} {l : List α} {k : Nat} (hk : k < l.length) : l.take (k + 1) = l.take k ++ [l.getD k z] := by
  rw [List.take_add_one, List.getD_eq_getElem?_getD, List.getElem?_eq_getElem hk]; rfl
theorem all_succ {P : Nat → Prop} {k : Nat} (h : ∀ j, j < k → P j) (hk : P k) : ∀ j, j < k + 1 → P j := fun j hj => by
  rcases Nat.lt_or_ge j k with h1 | h1
  · exact h j h1
  · obtain rfl : j = k := by omega
    exact hk
theorem rows_eq {α : Type} {a b : List α} {z : α} {k : Nat} (hl : a.length = b.length) (hk : a.length ≤ k) (h : ∀ j, j < k → a.getD j z = b.getD j z) : a = b := by
  apply List.ext_getElem hl
  intro j h1 h2
  have := h j (by omega)
  simpa [List.getD_eq_getElem?_getD, List.getElem?_eq_getElem h1, List.getElem?_eq_getElem h2] using this
theorem getD_mem {α : Type} {l : List α} {z : α} {k : Nat} (hk : k < l.length) : l.getD k z ∈ l := by
  rw [List.getD_eq_getElem?_getD, List.getElem?_eq_getElem hk]
  exact List.getElem_mem hk
theorem mem_get {α : Type} {l : List α} {z e : α} {k : Nat} (hk : k < l.length) (h : l.getD k z = e) : e ∈ l := h ▸ getD_mem hk
theorem not_mem_get {α : Type} {l : List α} {z e : α} {k : Nat} (hk : l.length ≤ k) (h : ∀ j, j < k → ¬ l.getD j z = e) : ¬ e ∈ l := fun hm => by
  obtain ⟨j, hj, rfl⟩ := List.getElem_of_mem hm
  refine h j (by omega) ?_
  rw [List.getD_eq_getElem?_getD, List.getElem?_eq_getElem hj]; rfl
theorem all_getD {α : Type} {p : α → Prop} {l : List α} {z : α} (h : ∀ x, x ∈ l → p x) (hz : p z) (k : Nat) : p (l.getD k z) := by
  rcases Nat.lt_or_ge k l.length with hk | hk
  · exact h _ (getD_mem hk)
  · rw [List.getD_eq_getElem?_getD, List.getElem?_eq_none hk]; exact hz
theorem foldl_succ {α β : Type} {f : β → α → β} {b : β} {z : α} {l : List α} {k : Nat} (hk : k < l.length) : (l.take (k + 1)).foldl f b = f ((l.take k).foldl f b) (l.getD k z) := by
  rw [tk_succ (z := z) hk, List.foldl_append]; rfl

/-! ### Few and small -/

def fewG {α : Type} (sz : α → Nat) (n m : Nat) (l : List α) : Prop := l.length ≤ n ∧ ∀ x, x ∈ l → sz x ≤ m
instance {α : Type} (sz : α → Nat) (n m : Nat) (l : List α) : Decidable (fewG sz n m l) := inferInstanceAs (Decidable (_ ∧ ∀ x, x ∈ l → sz x ≤ m))
section
variable {α : Type} {sz : α → Nat} {n m : Nat} {l : List α} {z : α} {k : Nat}
theorem fewG_no1 {c : Int} (h : ((l.length : Nat) : Int) > c) (hc : c = ((n : Nat) : Int)) : ¬ fewG sz n m l := fun h1 => by have := h1.1; omega
theorem fewG_no2 {c : Int} (hk : k < l.length) (h : ((sz (l.getD k z) : Nat) : Int) > c) (hc : c = ((m : Nat) : Int)) : ¬ fewG sz n m l := fun h1 => by
  have := h1.2 _ (getD_mem (z := z) hk)
  omega
theorem fewG_yes {c : Int} (h0 : ¬ ((l.length : Nat) : Int) > c) (hc : c = ((n : Nat) : Int)) (hk : l.length ≤ k) (h : ∀ j, j < k → sz (l.getD j z) ≤ m) : fewG sz n m l := ⟨by omega, fun x hx => by
  obtain ⟨j, hj, rfl⟩ := List.getElem_of_mem hx
  have := h j (by omega)
  rw [List.getD_eq_getElem?_getD, List.getElem?_eq_getElem hj] at this
  exact this⟩
theorem fewG_get (hf : fewG sz n m l) (hz : sz z ≤ m) (k : Nat) : sz (l.getD k z) ≤ m := all_getD hf.2 hz k
theorem mem_set {x y : α} (h : x ∈ l.set k y) : x ∈ l ∨ x = y := List.mem_or_eq_of_mem_set h
theorem fewG_set {y : α} (hf : fewG sz n m l) (hy : sz y ≤ m) : fewG sz n m (l.set k y) := ⟨by rw [List.length_set]; exact hf.1, fun x hx => by
  rcases mem_set hx with h | h
  · exact hf.2 x h
  · rw [h]; exact hy⟩
end
theorem u8_of {a b : UInt8} (h : ((a.toNat : Nat) : Int) = ((b.toNat : Nat) : Int)) : a = b := UInt8.toNat_inj.1 (by omega)
theorem u8_ne {a b : UInt8} (h : ¬ ((a.toNat : Nat) : Int) = ((b.toNat : Nat) : Int)) : ¬ a = b := fun e => h (by rw [e])
end Go.Proofs.Ytacikihlgpnjhaa.Q
