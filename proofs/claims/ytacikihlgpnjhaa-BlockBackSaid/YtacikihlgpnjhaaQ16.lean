import Derived.Test.YtacikihlgpnjhaaQ15
import Derived.ChangeOld
import Derived.ChangeArms
namespace Go.Proofs.Ytacikihlgpnjhaa.Q
open Go Go.RowKit
set_option linter.unusedVariables false

/-! ### What the arguments of a law hold -/

variable {P : Program}

def inW (w : World) (b : Nat) : Prop := b < w.heap.size
def cellsOk {α : Type} (w : World) (K : Kd α) (a : α) (cs : List Value) : Prop := cs.length = K.sz ∧ ∀ j, j < K.sz → ∃ u, cs[j]? = some u ∧ dOk (inW w) (inW w) w (K.cell a j) u
/-- Cells of a type that are read hold some data of a kind. -/
def Rd {α : Type} (P : Program) (t : TypeId) (K : Kd α) (ok : α → Prop) : Prop :=
  ∀ (H : Type) (enc : TypeId × Value → H) (w : World) (base : Nat) (sp : Nat → Bool) (held : Bool) (fuel : Nat) (cs : List Value) (x : DataW H × List MemPlace), DataW.trod enc P w base sp held fuel t cs = some x → ∃ a : α, ok a ∧ cellsOk w K a cs

theorem rd_int {t : TypeId} {k : IntKind} (ht : P.underlying t = some (.int k)) : Rd P t (kInt k) (fun n => (Lit.int k n).wf = true) := fun H enc w base sp held fuel cs x h => by
  obtain ⟨n, rfl, _, hw⟩ := DataW.trod_int ht h
  refine ⟨n, hw, rfl, fun j hj => ?_⟩
  have hj : j < 1 := hj
  obtain rfl : j = 0 := by omega
  exact ⟨_, rfl, rfl⟩
theorem rd_bool {t : TypeId} (ht : P.underlying t = some .bool) : Rd P t kBool (fun _ => True) := fun H enc w base sp held fuel cs x h => by
  obtain ⟨n, rfl, _⟩ := DataW.trod_bool ht h
  refine ⟨n, trivial, rfl, fun j hj => ?_⟩
  have hj : j < 1 := hj
  obtain rfl : j = 0 := by omega
  exact ⟨_, rfl, rfl⟩
theorem rd_u8 {t : TypeId} (ht : P.underlying t = some (.int .u8)) : Rd P t kU8 (fun _ => True) := fun H enc w base sp held fuel cs x h => by
  obtain ⟨n, rfl, _, hw⟩ := DataW.trod_int ht h
  have hw : 0 ≤ n ∧ n < 256 := by
    have h1 : IntKind.u8.min ≤ n ∧ n ≤ IntKind.u8.max := by simpa [Lit.wf] using hw
    have h2 : IntKind.u8.min = 0 := by decide
    have h3 : IntKind.u8.max = 255 := by decide
    omega
  refine ⟨UInt8.ofNat n.toNat, trivial, rfl, fun j hj => ?_⟩
  have hj : j < 1 := hj
  obtain rfl : j = 0 := by omega
  refine ⟨_, rfl, ?_⟩
  show Value.int .u8 n = .int .u8 ((UInt8.ofNat n.toNat).toNat : Int)
  congr 1
  rw [UInt8.toNat_ofNat']
  omega
theorem rd_str {t : TypeId} (ht : P.underlying t = some .string) : Rd P t kStr (fun l => l.length ≤ maxLen) := fun H enc w base sp held fuel cs x h => by
  obtain ⟨s, rfl, _, hw⟩ := DataW.trod_string ht h
  refine ⟨s.data.toList, by simpa using hw, rfl, fun j hj => ?_⟩
  have hj : j < 1 := hj
  obtain rfl : j = 0 := by omega
  exact ⟨_, rfl, rfl⟩
theorem list_choose {α : Type} {R : Nat → α → Prop} : ∀ (n : Nat), (∀ i, i < n → ∃ a, R i a) → ∃ xs : List α, xs.length = n ∧ ∀ i a, xs[i]? = some a → R i a
  | 0, _ => ⟨[], rfl, fun _ _ h => by simp at h⟩
  | n + 1, h => by
    obtain ⟨xs, h1, h2⟩ := list_choose n fun i hi => h i (by omega)
    obtain ⟨a, ha⟩ := h n (by omega)
    refine ⟨xs ++ [a], by simp [h1], fun i b hb => ?_⟩
    rcases Nat.lt_or_ge i n with hi | hi
    · rw [List.getElem?_append_left (by omega)] at hb; exact h2 i b hb
    · have hlt := (List.getElem?_eq_some_iff.1 hb).1
      simp only [List.length_append, List.length_cons, List.length_nil] at hlt
      obtain rfl : i = n := by omega
      rw [List.getElem?_append_right (by omega), h1] at hb
      simp at hb
      subst hb
      exact ha
theorem rd_slice {α : Type} {t e : TypeId} {K : Kd α} {ok : α → Prop} (ht : P.underlying t = some (.slice e)) (hc : P.cellsOf e = K.sz) (hK : 0 < K.sz) (h : Rd P e K ok) : Rd P t (kSl false K) (fun xs => xs.length ≤ maxLen ∧ ∀ x, x ∈ xs → ok x) := fun H enc w base sp held fuel cs x hx => by
  have mk : ∀ (xs : List α) (u : Value), cs = [u] → dOk (inW w) (inW w) w (dsl false false K xs) u → cellsOk w (kSl false K) xs cs := fun xs u e hd => ⟨by rw [e]; rfl, fun j hj => by
    have hj : j < 1 := hj
    obtain rfl : j = 0 := by omega
    exact ⟨u, by rw [e]; rfl, hd⟩⟩
  rcases DataW.trod_slice ht hx with ⟨hcs, _⟩ | ⟨a, len, cap, elems, rest, n, _, hcs, _, hb, hl, hm, hlen, hel, _, _⟩
  · exact ⟨[], ⟨by simp, fun x hx => by cases hx⟩, mk [] _ hcs ⟨none, 0, rfl, Nat.le_refl _, fun _ => rfl, (fun h => by cases h), fun i hi => absurd hi (Nat.not_lt_zero _)⟩⟩
  · have hr : ∀ i, i < len → ∃ b : α, ok b ∧ ∃ cs', w.cells? base (a.add (i * P.cellsOf e)) (P.cellsOf e) = some cs' ∧ cellsOk w K b cs' := fun i hi => by
      have h1 := hel i hi
      rw [List.getElem?_eq_getElem (by omega), Option.bind_eq_some_iff] at h1
      obtain ⟨cs', h2, h3⟩ := h1
      obtain ⟨b, hb1, hb2⟩ := h H enc w base sp held n cs' _ h3
      exact ⟨b, hb1, cs', h2, hb2⟩
    obtain ⟨xs, hxl, hxs⟩ := list_choose len hr
    refine ⟨xs, ⟨by omega, fun x hx => ?_⟩, mk xs _ hcs ⟨some a, cap, by rw [hxl], by rw [hxl]; exact hl, by simp, by simp, fun i hi => ?_⟩⟩
    · obtain ⟨i, hi, rfl⟩ := List.getElem_of_mem hx
      exact (hxs i _ (List.getElem?_eq_getElem hi)).1
    · have hi0 : 0 < xs.length := by omega
      obtain ⟨_, cs0, hc0, ho0⟩ := hxs 0 _ (List.getElem?_eq_getElem hi0)
      obtain ⟨_, hl0, hg0⟩ := World.cells?_some hc0
      have h00 := hg0 0 (by rw [hc]; exact hK)
      obtain ⟨u0, hu0, _⟩ := ho0.2 0 hK
      rw [hu0] at h00
      have hcell : w.cell? a = some u0 := by simpa [Addr.add] using h00
      have hspot : a.spot = none := by
        unfold World.cell? at hcell
        split at hcell
        · cases hs : a.spot with
          | none => rfl
          | some q => rw [hs] at hcell; simp at hcell
        · cases hcell
      have hblk : a.block < w.heap.size := World.cells?_block (a := a.add (0 * P.cellsOf e)) hc0 (by rw [hc]; exact hK) |> fun h => by simpa [Addr.add] using h
      refine ⟨a, rfl, hspot, hblk, fun j hj => ?_⟩
      obtain ⟨_, cs', hc', ho'⟩ := hxs i _ (List.getElem?_eq_getElem hi)
      obtain ⟨_, hl', hg'⟩ := World.cells?_some hc'
      have hij := hg' j (by rw [hc]; exact hj)
      obtain ⟨u, hu, hd⟩ := ho'.2 j hj
      rw [hu, hc] at hij
      refine ⟨u, ?_, ?_⟩
      · rw [← hij]
        congr 1
        obtain ⟨b, o, s⟩ := a
        simp only at hspot
        subst hspot
        simp only [Addr.add]
        split <;> split <;> simp_all
        · omega
      · show dOk _ _ w (K.cell (xs.getD i K.z) j) u
        rw [List.getD_eq_getElem?_getD, List.getElem?_eq_getElem hi]
        exact hd

/-- One field of a struct that is read. -/
theorem rd_field {α : Type} {K : Kd α} {ok : α → Prop} {H : Type} {enc : TypeId × Value → H} {w : World} {base : Nat} {sp : Nat → Bool} {held : Bool} {n : Nat} {cs : List Value} {xs : List (DataW H × List MemPlace)} {fs : Array Field} (hx : xs.length = fs.size)
    (h : ∀ (i : Nat) (f : Field), fs[i]? = some f → DataW.trod enc P w base sp held n f.type ((cs.drop f.offset).take (P.cellsOf f.type)) = xs[i]?) (i : Nat) {f : Field} (hf : fs[i]? = some f) {t : TypeId} {off : Nat} (ht : f.type = t) (ho : f.offset = off) (hr : Rd P t K ok) :
    ∃ a : α, ok a ∧ ∀ j, j < K.sz → ∃ u, cs[off + j]? = some u ∧ dOk (inW w) (inW w) w (K.cell a j) u := by
  subst ht ho
  have hi : i < xs.length := by rw [hx]; exact (Array.getElem?_eq_some_iff.1 hf).1
  have h1 := h i f hf
  rw [List.getElem?_eq_getElem hi] at h1
  obtain ⟨a, h2, h3, h4⟩ := hr H enc w base sp held n _ _ h1
  refine ⟨a, h2, fun j hj => ?_⟩
  obtain ⟨u, hu, hd⟩ := h4 j hj
  refine ⟨u, ?_, hd⟩
  rw [List.getElem?_take] at hu
  split at hu
  · rwa [List.getElem?_drop] at hu
  · cases hu

theorem G0 {W : World} {vs : List Value} {l : List AV} (hl : vs.length = l.length) (h : ∀ i av, l[i]? = some av → avOk (fun _ => none) (inW W) (inW W) W av (vs.getD i undef)) :
    G (mkBase vs.length 0 W (inW W) (inW W) fun _ => none) (fun _ => none) (inW W) (inW W) ⟨l, []⟩ ⟨vs.toArray, []⟩ W :=
  { df := rfl, sz := by simp [mkBase], tm := fun k => by
      rcases Nat.lt_or_ge k l.length with hk | hk
      · have h1 := h k l[k] (List.getElem?_eq_getElem hk)
        have h2 : tget l k = l[k] := by
          clear h h1 hl
          induction l generalizing k with
          | nil => exact absurd hk (Nat.not_lt_zero _)
          | cons x r ih => cases k with
            | zero => rfl
            | succ k => exact ih k (by simpa using hk)
        show avOk _ _ _ _ (tget l k) (vs.toArray.getD k undef)
        rw [h2]
        simpa using h1
      · show avOk _ _ _ _ (tget l k) _
        rw [tget_ge l k hk]
        exact trivial,
    ob := fun l o e => (by cases l <;> cases e), nj := fun l l' o o' e => (by cases l <;> cases e), sp := fun l o p e => (by cases l <;> cases e), cf := fun l o p e => (by cases l <;> cases e), fr := fun _ _ => rfl, su := fun _ h => h, ub := fun _ h => h, s0 := fun _ h => h, u0 := fun _ h => h, sn := fun _ h => .inl h, un := fun _ h => .inl h, ps := fun _ _ _ => rfl, hs := Nat.le_refl _, os := rfl, tp := rfl, op := rfl, bl := fun _ _ h => h, bk := fun _ _ => rfl }
/-- A law. -/
theorem lawN {f : Nat} {l : List AV} (h : Holds P f ⟨l, [], dv (.bool true), []⟩) (W : World) {vs : List Value} (hl : vs.length = l.length) (ha : ∀ i av, l[i]? = some av → avOk (fun _ => none) (inW W) (inW W) W av (vs.getD i undef)) : Calls P f vs.toArray W fun e w' => e = .returned (.bool true) ∧ Below W.heap.size W w' := by
  refine (h W (fun _ => none) (inW W) (inW W) vs hl (G0 hl ha)).mono ?_
  rintro e w' ⟨v, B', S', U', rfl, g⟩
  have hv : v = .bool true := g.tm 0
  subst hv
  exact ⟨rfl, ⟨g.os, g.tp, g.op, g.hs, fun k hk => g.ps k hk fun ⟨i, κ, hi, _⟩ => absurd hi (Nat.not_lt_zero _)⟩⟩
/-- An argument that is a struct. -/
theorem arg_agg {α : Type} {W : World} {K : Kd α} {a : α} {cs : Array Value} {l : List SV} (h : cellsOk W K a cs.toList) (hl : (dvs K.sz (K.cell a)) = l) : avOk (fun _ => none) (inW W) (inW W) W (.tv (.agg l)) (.agg cs) := by
  refine ⟨cs.toList, by simp, ?_⟩
  subst hl
  rw [dvs_eq]
  refine all2_of_get (by simp; exact h.1.symm) fun i x y hx hy => ?_
  have hi : i < K.sz := by have := (List.getElem?_eq_some_iff.1 hx).1; simpa using this
  rw [List.getElem?_map, List.getElem?_range hi] at hx
  cases hx
  obtain ⟨u, hu, hd⟩ := h.2 i hi
  rw [hu] at hy
  cases hy
  exact hd
/-- An argument of one cell. -/
theorem arg_one {α : Type} {W : World} {K : Kd α} {a : α} {v : Value} {d : DV} (h : cellsOk W K a [v]) (hs : K.sz = 1) (hd : K.cell a 0 = d) : avOk (fun _ => none) (inW W) (inW W) W (sv (.d d)) v := by
  obtain ⟨u, hu, h1⟩ := h.2 0 (by omega)
  cases hu
  subst hd
  exact h1
end Go.Proofs.Ytacikihlgpnjhaa.Q
