import Derived.WalkKit
import Derived.Orders
namespace Go.Proofs.Ytacikihlgpnjhaa.Q
open Go Go.RowKit

/-- What a cell of data stands for. -/
inductive DV where
  | any
  | val (v : Value)
  | sl (tag nn : Bool) (sz n : Nat) (el : Nat → Nat → DV)

/-- What a cell stands for: data, a pointer into an object, an object's slice header, a pointer to shared cells, a map. -/
inductive SV where
  | d (x : DV)
  | ptr (l off : Nat)
  | own (l sz off n : Nat)
  | ep (tag : Bool) (n : Nat) (el : Nat → DV)
  | mref (l : Nat)
  | cl (tag nn : Bool) (sz n : Nat) (el : Nat → Nat → DV)

inductive TV where
  | one (s : SV)
  | agg (l : List SV)

/-- What a temporary holds. -/
inductive AV where
  | tv (t : TV)
  | tup (l : List TV)

/-- An object: a block of its own. -/
inductive HObj where
  | box (T : Nat) (cs : List SV)
  | arr (T sz n : Nat) (el : Nat → Nat → DV)
  | mp (es : List (Value × List DV))

abbrev AV.any : AV := .tv (.one (.d .any))
abbrev dv (v : Value) : AV := .tv (.one (.d (.val v)))
abbrev pv (l off : Nat) : AV := .tv (.one (.ptr l off))
abbrev sv (s : SV) : AV := .tv (.one s)

def all2 {α β : Type} (R : α → β → Prop) : List α → List β → Prop
  | [], [] => True
  | a :: as, b :: bs => R a b ∧ all2 R as bs
  | _, _ => False

theorem all2_len {α β : Type} {R : α → β → Prop} : ∀ {l : List α} {k : List β}, all2 R l k → l.length = k.length
  | [], [], _ => rfl
  | _ :: _, _ :: _, h => by simp only [List.length_cons]; rw [all2_len h.2]
  | [], _ :: _, h => h.elim
  | _ :: _, [], h => h.elim

theorem all2_mono {α β : Type} {R R' : α → β → Prop} (hr : ∀ a b, R a b → R' a b) : ∀ {l : List α} {k : List β}, all2 R l k → all2 R' l k
  | [], [], _ => trivial
  | _ :: _, _ :: _, h => ⟨hr _ _ h.1, all2_mono hr h.2⟩
  | [], _ :: _, h => h.elim
  | _ :: _, [], h => h.elim

theorem all2_get {α β : Type} {R : α → β → Prop} : ∀ {l : List α} {k : List β}, all2 R l k → ∀ {i : Nat} {a : α}, l[i]? = some a → ∃ b, k[i]? = some b ∧ R a b
  | a :: as, b :: bs, h, 0, x, e => by
    simp only [List.getElem?_cons_zero, Option.some.injEq] at e
    subst e
    exact ⟨b, rfl, h.1⟩
  | a :: as, b :: bs, h, i + 1, x, e => by
    simp only [List.getElem?_cons_succ] at e ⊢
    exact all2_get h.2 e
  | [], [], _, i, x, e => by simp at e
  | [], _ :: _, h, _, _, _ => h.elim
  | _ :: _, [], h, _, _, _ => h.elim

theorem all2_of_get {α β : Type} {R : α → β → Prop} : ∀ {l : List α} {k : List β}, l.length = k.length → (∀ (i : Nat) (a : α) (b : β), l[i]? = some a → k[i]? = some b → R a b) → all2 R l k
  | [], [], _, _ => trivial
  | a :: as, b :: bs, hl, h => ⟨h 0 a b rfl rfl, all2_of_get (by simpa using hl) fun i x y hx hy => h (i + 1) x y hx hy⟩
  | [], _ :: _, hl, _ => by simp at hl
  | _ :: _, [], hl, _ => by simp at hl

theorem all2_map {α β γ : Type} {R : γ → β → Prop} (f : α → γ) : ∀ {l : List α} {k : List β}, all2 R (l.map f) k ↔ all2 (fun a b => R (f a) b) l k
  | [], [] => Iff.rfl
  | _ :: _, _ :: _ => and_congr Iff.rfl (all2_map f)
  | [], _ :: _ => Iff.rfl
  | _ :: _, [] => Iff.rfl

theorem all2_set {α β : Type} {R : α → β → Prop} {a : α} {b : β} (hab : R a b) : ∀ {l : List α} {k : List β} (i : Nat), all2 R l k → all2 R (l.set i a) (k.set i b)
  | [], [], _, _ => trivial
  | _ :: _, _ :: _, 0, h => ⟨hab, h.2⟩
  | _ :: _, _ :: _, i + 1, h => ⟨h.1, all2_set hab i h.2⟩
  | [], _ :: _, _, h => h.elim
  | _ :: _, [], _, h => h.elim

theorem all2_append {α β : Type} {R : α → β → Prop} : ∀ {l l' : List α} {k k' : List β}, all2 R l k → all2 R l' k' → all2 R (l ++ l') (k ++ k')
  | [], _, [], _, _, h' => h'
  | _ :: _, _, _ :: _, _, h, h' => ⟨h.1, all2_append h.2 h'⟩
  | [], _, _ :: _, _, h, _ => h.elim
  | _ :: _, _, [], _, h, _ => h.elim

section
variable (S U : Nat → Prop) (w : World)

/-- A cell of data holds what it stands for; what it leads to lies in blocks of S (tag false) or of U (tag true). -/
def dOk : DV → Value → Prop
  | .any, _ => True
  | .val u, v => v = u
  | .sl tag nn sz n el, v => ∃ a cap, v = .slice a n cap ∧ n ≤ cap ∧ (a = none → cap = 0) ∧ (nn = true → a ≠ none) ∧
      ∀ i, i < n → ∃ ad, a = some ad ∧ ad.spot = none ∧ (if tag then U ad.block else S ad.block) ∧
        ∀ j, j < sz → ∃ u, w.cell? ⟨ad.block, ad.off + (i * sz + j), none⟩ = some u ∧ dOk (el i j) u

end

/-- Blocks that hold what they held. -/
def Pres (U : Nat → Prop) (w w' : World) : Prop := ∀ b, U b → w'.heap[b]? = w.heap[b]?

theorem Pres.cell {U : Nat → Prop} {w w' : World} (h : Pres U w w') {a : Addr} (hb : U a.block) : w'.cell? a = w.cell? a := World.cell?_of_block (w := w) (h a.block hb)

theorem dOk_mono {S U S' U' : Nat → Prop} {w w' : World} (hS : ∀ b, S b → S' b) (hU : ∀ b, U b → U' b) (hp : Pres (fun b => S b ∨ U b) w w') :
    ∀ (x : DV) (v : Value), dOk S U w x v → dOk S' U' w' x v
  | .any, _, _ => trivial
  | .val _, _, h => h
  | .sl tag nn sz n el, v, h => by
    obtain ⟨a, cap, hv, h1, h2, h3, h4⟩ := h
    refine ⟨a, cap, hv, h1, h2, h3, fun i hi => ?_⟩
    obtain ⟨ad, ha, hs, hb, hc⟩ := h4 i hi
    refine ⟨ad, ha, hs, ?_, fun j hj => ?_⟩
    · cases tag
      · exact hS _ hb
      · exact hU _ hb
    · obtain ⟨u, hu, hd⟩ := hc j hj
      refine ⟨u, ?_, dOk_mono hS hU hp _ _ hd⟩
      rw [hp.cell (a := ⟨ad.block, ad.off + (i * sz + j), none⟩) ?_]
      · exact hu
      · cases tag
        · exact Or.inl hb
        · exact Or.inr hb

/-- Where an object's block is, and how many elements it has room for (`some none`: an array of no elements that has no block). -/
abbrev Bk := Nat → Option (Option (Nat × Nat))

section
variable (B : Bk) (S U : Nat → Prop) (w : World)

def svOk : SV → Value → Prop
  | .d x, v => dOk S U w x v
  | .ptr l off, v => ∃ b κ, B l = some (some (b, κ)) ∧ v = .pointer (some ⟨b, off, none⟩)
  | .own l sz off n, v => (B l = some none ∧ off = 0 ∧ n = 0 ∧ v = .slice none 0 0) ∨
      ∃ b κ o cap, B l = some (some (b, κ)) ∧ v = .slice (some ⟨b, o, none⟩) n cap ∧ off + cap = κ ∧ n ≤ cap ∧ (cap ≠ 0 ∨ off = 0 → o = off * sz)
  | .ep tag n el, v => ∃ ad, v = .pointer (some ad) ∧ ad.spot = none ∧ (if tag then U ad.block else S ad.block) ∧
      ∀ j, j < n → ∃ u, w.cell? ⟨ad.block, ad.off + j, none⟩ = some u ∧ dOk S U w (el j) u
  | .mref l, v => ∃ b κ, B l = some (some (b, κ)) ∧ v = .map (some b)
  | .cl tag nn sz n el, v => dOk S U w (.sl tag nn sz n el) v ∧ ∃ a, v = .slice a n n

def tvOk : TV → Value → Prop
  | .one s, v => svOk B S U w s v
  | .agg l, v => ∃ cs : List Value, v = .agg cs.toArray ∧ all2 (svOk B S U w) l cs

def avOk : AV → Value → Prop
  | .tv t, v => tvOk B S U w t v
  | .tup l, v => ∃ vs : List Value, v = .tuple vs.toArray ∧ all2 (tvOk B S U w) l vs

/-- A map's entries. -/
def entOk (e : Value × List DV) (x : MapEntry) : Prop := x.key = e.1 ∧ (e.2.length = 1 → x.val.cells = #[x.val]) ∧ all2 (dOk S U w) e.2 x.val.cells.toList

def obOk (l : Nat) : HObj → Prop
  | .box T cs => ∃ b κ cur, B l = some (some (b, κ)) ∧ w.heap[b]? = some (.cells cur T (0, 0)) ∧ all2 (svOk B S U w) cs cur.toList
  | .arr T sz n el => (B l = some none ∧ n = 0) ∨
      ∃ b κ cur, B l = some (some (b, κ)) ∧ w.heap[b]? = some (.cells cur T (0, 0)) ∧ cur.size = κ * sz ∧ n ≤ κ ∧ κ ≤ maxLen ∧
        ∀ i, i < n → ∀ j, j < sz → ∃ u, cur[i * sz + j]? = some u ∧ dOk S U w (el i j) u
  | .mp es => ∃ b κ ents clock, B l = some (some (b, κ)) ∧ w.heap[b]? = some (.map ents clock) ∧ all2 (entOk S U w) es ents.toList
end

section
variable {B B' : Bk} {S U S' U' : Nat → Prop} {w w' : World}

theorem svOk_mono (hB : ∀ l p, B l = some p → B' l = some p) (hS : ∀ b, S b → S' b) (hU : ∀ b, U b → U' b) (hp : Pres (fun b => S b ∨ U b) w w') :
    ∀ (x : SV) (v : Value), svOk B S U w x v → svOk B' S' U' w' x v
  | .d x, v, h => dOk_mono hS hU hp x v h
  | .ptr l off, v, h => by obtain ⟨b, κ, h1, h2⟩ := h; exact ⟨b, κ, hB l _ h1, h2⟩
  | .own l sz off n, v, h => by
    rcases h with ⟨h1, h2⟩ | ⟨b, κ, o, cap, h1, h2⟩
    · exact .inl ⟨hB l _ h1, h2⟩
    · exact .inr ⟨b, κ, o, cap, hB l _ h1, h2⟩
  | .mref l, v, h => by obtain ⟨b, κ, h1, h2⟩ := h; exact ⟨b, κ, hB l _ h1, h2⟩
  | .cl tag nn sz n el, v, h => ⟨dOk_mono hS hU hp _ v h.1, h.2⟩
  | .ep tag n el, v, h => by
    obtain ⟨ad, h1, h2, h3, h4⟩ := h
    refine ⟨ad, h1, h2, ?_, fun j hj => ?_⟩
    · cases tag
      · exact hS _ h3
      · exact hU _ h3
    · obtain ⟨u, hu, hd⟩ := h4 j hj
      refine ⟨u, ?_, dOk_mono hS hU hp _ _ hd⟩
      rw [hp.cell (a := ⟨ad.block, ad.off + j, none⟩) ?_]
      · exact hu
      · cases tag
        · exact Or.inl h3
        · exact Or.inr h3

theorem tvOk_mono (hB : ∀ l p, B l = some p → B' l = some p) (hS : ∀ b, S b → S' b) (hU : ∀ b, U b → U' b) (hp : Pres (fun b => S b ∨ U b) w w') :
    ∀ (x : TV) (v : Value), tvOk B S U w x v → tvOk B' S' U' w' x v
  | .one s, v, h => svOk_mono hB hS hU hp s v h
  | .agg l, v, h => by
    obtain ⟨cs, h1, h2⟩ := h
    exact ⟨cs, h1, all2_mono (svOk_mono hB hS hU hp) h2⟩

theorem avOk_mono (hB : ∀ l p, B l = some p → B' l = some p) (hS : ∀ b, S b → S' b) (hU : ∀ b, U b → U' b) (hp : Pres (fun b => S b ∨ U b) w w') :
    ∀ (x : AV) (v : Value), avOk B S U w x v → avOk B' S' U' w' x v
  | .tv t, v, h => tvOk_mono hB hS hU hp t v h
  | .tup l, v, h => by
    obtain ⟨cs, h1, h2⟩ := h
    exact ⟨cs, h1, all2_mono (tvOk_mono hB hS hU hp) h2⟩
end

end Go.Proofs.Ytacikihlgpnjhaa.Q
