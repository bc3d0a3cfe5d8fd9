import Derived.Test.YtacikihlgpnjhaaQ8
import Derived.Laws.AppendOwn
namespace Go.Proofs.Ytacikihlgpnjhaa.Q
open Go Go.RowKit
set_option linter.unusedVariables false
set_option linter.unusedSimpArgs false

/-! ### Kinds of data -/

structure Kd (α : Type) where
  sz : Nat
  cell : α → Nat → DV
  z : α

def elOf {α : Type} (K : Kd α) (xs : List α) : Nat → Nat → DV := fun i j => K.cell (xs.getD i K.z) j
def dsl {α : Type} (tag nn : Bool) (K : Kd α) (xs : List α) : DV := .sl tag nn K.sz xs.length (elOf K xs)
abbrev slV {α : Type} (tag nn : Bool) (K : Kd α) (xs : List α) : AV := sv (.d (dsl tag nn K xs))
def arrK {α : Type} (T : Nat) (K : Kd α) (xs : List α) : HObj := .arr T K.sz xs.length (elOf K xs)

theorem elOf_cut {α : Type} (K : Kd α) (xs : List α) (l h : Nat) (hh : h ≤ xs.length) (i j : Nat) (hi : i < h - l) : elOf K ((xs.take h).drop l) i j = elOf K xs (l + i) j := by
  unfold elOf
  congr 1
  simp only [List.getD_eq_getElem?_getD, List.getElem?_drop]
  rw [List.getElem?_take, if_pos (by omega)]

theorem elOf_app {α : Type} (K : Kd α) (xs ys : List α) (i j : Nat) : elOf K (xs ++ ys) i j = if i < xs.length then elOf K xs i j else elOf K ys (i - xs.length) j := by
  unfold elOf
  split
  · congr 1
    simp only [List.getD_eq_getElem?_getD, List.getElem?_append]
    rw [if_pos (by assumption)]
  · congr 1
    simp only [List.getD_eq_getElem?_getD, List.getElem?_append]
    rw [if_neg (by assumption)]

/-! ### Cutting -/

def oOps : Option (Operand × Int) → List (Operand × AV)
  | none => []
  | some (x, n) => [(x, dv (.int .i64 n))]

theorem evs_append {B : Bk} {S U : Nat → Prop} {a : Act} {w : World} : ∀ {l k : List (Operand × AV)}, evs B S U a w (l ++ k) ↔ evs B S U a w l ∧ evs B S U a w k
  | [], k => by simp [evs]
  | p :: l, k => by simp only [List.cons_append, evs, evs_append (l := l), and_assoc]

theorem oOps_eval {B : Bk} {S U : Nat → Prop} {a : Act} {w : World} {x : Option (Operand × Int)} (h : evs B S U a w (oOps x)) : (x.map (·.1)).map a.eval = x.map fun p => Value.int .i64 p.2 := by
  cases x with
  | none => rfl
  | some p => have h1 : a.eval p.1 = .int .i64 p.2 := h.1; simp [h1]

variable {P : Program} {bs : Base}

theorem run_sliceBound {n : Int} {y : Nat} {c : BoundsCode} {w : World} (h0 : 0 ≤ n) (h1 : n ≤ y) : (Instr.sliceBound (.int .i64 n) y c).run P w = .ok n.toNat w := by
  simp [Instr.sliceBound, asIntOf, h0, h1]

/-- The three bounds of a cut. -/
def boundsOk (len cap : Nat) (lo hi mx : Option (Operand × Int)) (l h m : Nat) : Prop :=
  (match mx with | none => m = cap | some p => p.2 = m ∧ m ≤ cap ∧ hi.isSome = true) ∧ (match hi with | none => h = len | some p => p.2 = h ∧ h ≤ m) ∧ (match lo with | none => l = 0 | some p => p.2 = l ∧ l ≤ h)

theorem run_sliceBound' {k y : Nat} {c : BoundsCode} {w : World} (h : k ≤ y) : (Instr.sliceBound (.int .i64 (k : Int)) y c).run P w = .ok k w := by
  rw [run_sliceBound (by omega) (by omega)]
  simp

theorem run_sliceBounds {sl : Bool} {len cap l h m : Nat} {lo hi mx : Option (Operand × Int)} {w : World} (hb : boundsOk len cap lo hi mx l h m) :
    (Instr.sliceBounds sl len cap (lo.map fun p => Value.int .i64 p.2) (hi.map fun p => Value.int .i64 p.2) (mx.map fun p => Value.int .i64 p.2)).run P w = .ok (l, h, m) w := by
  obtain ⟨h1, h2, h3⟩ := hb
  cases mx with
  | none =>
    simp only at h1
    subst h1
    cases hi with
    | none =>
      simp only at h2
      subst h2
      cases lo with
      | none => simp only at h3; subst h3; simp [Instr.sliceBounds]
      | some p => obtain ⟨x, n⟩ := p; obtain ⟨e3, h3⟩ := h3; simp only at e3; subst e3; simp [Instr.sliceBounds, run_sliceBound' h3]
    | some p =>
      obtain ⟨x, n⟩ := p; obtain ⟨e, h2⟩ := h2; simp only at e; subst e
      cases lo with
      | none => simp only at h3; subst h3; simp [Instr.sliceBounds, run_sliceBound' h2]
      | some p => obtain ⟨x, n⟩ := p; obtain ⟨e3, h3⟩ := h3; simp only at e3; subst e3; simp [Instr.sliceBounds, run_sliceBound' h2, run_sliceBound' h3]
  | some q =>
    obtain ⟨y, k⟩ := q; obtain ⟨e1, h1, h4⟩ := h1; simp only at e1; subst e1
    cases hi with
    | none => cases h4
    | some p =>
      obtain ⟨x, n⟩ := p; obtain ⟨e, h2⟩ := h2; simp only at e; subst e
      cases lo with
      | none => simp only at h3; subst h3; simp [Instr.sliceBounds, run_sliceBound' h1, run_sliceBound' h2]
      | some p => obtain ⟨x, n⟩ := p; obtain ⟨e3, h3⟩ := h3; simp only at e3; subst e3; simp [Instr.sliceBounds, run_sliceBound' h1, run_sliceBound' h2, run_sliceBound' h3]

theorem run_sliceAt {t e : TypeId} {inf : TypeInfo} (ht : P.underlying t = some (.slice e)) (hi : P.info? e = some inf) {a : Option Addr} {len cap l h m : Nat} {lo hi' mx : Option (Operand × Int)} {w : World} (hb : boundsOk len cap lo hi' mx l h m) :
    (Instr.sliceAt t (.slice a len cap) (lo.map fun p => Value.int .i64 p.2) (hi'.map fun p => Value.int .i64 p.2) (mx.map fun p => Value.int .i64 p.2)).run P w = .ok (.slice (if m = l then a else a.map (·.add (l * inf.size))) (h - l) (m - l)) w := by
  simp only [Instr.sliceAt, Instr.slice, Sem.run_bind, run_underlying' ht, Result.andThen_ok, run_sliceBounds hb, run_sizeOf hi, Sem.run_pure]

/-- A cut of a shared slice; behind it the capacity may be anything. -/
theorem r_sliceS {d sz n l h : Nat} {tag nn : Bool} {el el' : Nat → Nat → DV} {x : Operand} {lo hi : Option (Operand × Int)} {lo' hi' : Option Operand} {t e ty : TypeId} {pos : String} {af : Array Edge} {gd : Option (Nat × Bool)} {inf : TypeInfo} (ht : P.underlying t = some (.slice e)) (hinf : P.info? e = some inf) (hsz : inf.size = sz)
    (hlo' : lo' = lo.map (·.1)) (hhi' : hi' = hi.map (·.1)) (hl : match lo with | none => l = 0 | some p => p.2 = l) (hh : match hi with | none => h = n | some p => p.2 = h) (hlh : l ≤ h) (hhn : h ≤ n) (hel : ∀ i j, i < h - l → el' i j = el (l + i) j) {n' : Nat} (hn' : h - l = n') (hN : d < bs.N) (hc : cOk ((x, sv (.d (.sl tag nn sz n el))) :: (oOps lo ++ oOps hi))) :
    ORule P bs ⟨some d, .slice t x lo' hi' none, ty, pos, af, gd⟩ ⟨rtOf ((x, sv (.d (.sl tag nn sz n el))) :: (oOps lo ++ oOps hi)), [], [(d, sv (.d (.sl tag nn sz n' el')))], []⟩ :=
  .val rfl hN hc fun B S U s a w g _ he => by
    obtain ⟨ao, cap, hv, h1, h2, h3, h4⟩ := he.1
    obtain ⟨he1, he2⟩ := evs_append.1 he.2
    subst hsz
    have hb : boundsOk n cap lo hi none l h cap := by
      refine ⟨rfl, ?_, ?_⟩
      · cases hi with
        | none => exact hh
        | some p => exact ⟨hh, by omega⟩
      · cases lo with
        | none => exact hl
        | some p => exact ⟨hl, hlh⟩
    refine ⟨.slice (if cap = l then ao else ao.map (·.add (l * inf.size))) (h - l) (cap - l), ?_, _, cap - l, by rw [hn'], by omega, ?_, ?_, ?_⟩
    · subst hlo'
      subst hhi'
      have hmx := run_sliceAt (P := P) (mx := none) ht hinf (a := ao) (w := w) hb
      simp only [execOp, hv, oOps_eval he1, oOps_eval he2, Sem.run_bind, Option.map_none] at hmx ⊢
      rw [hmx]
      rfl
    · intro hnone
      split at hnone
      · have := h2 hnone; omega
      · cases ao with
        | none => have := h2 rfl; omega
        | some ad => cases hnone
    · intro hnn hnone
      split at hnone
      · exact h3 hnn hnone
      · cases ao with
        | none => exact h3 hnn rfl
        | some ad => cases hnone
    · intro i hi
      obtain ⟨ad, ha, hs, hb', hcell⟩ := h4 (l + i) (by omega)
      refine ⟨⟨ad.block, ad.off + l * inf.size, none⟩, ?_, rfl, hb', fun j hj => ?_⟩
      · rw [if_neg (by omega), ha]
        simp [add_eq' hs]
      · obtain ⟨u, hu, hd⟩ := hcell j hj
        rw [hel i j (by omega)]
        exact ⟨u, by rw [← hu, Nat.add_mul]; simp only [Nat.add_assoc], hd⟩

/-- 's[:len(s):len(s)]': no room behind it. -/
theorem r_clip {d sz n : Nat} {tag nn : Bool} {el : Nat → Nat → DV} {x y z : Operand} {p q : Int} {t e ty : TypeId} {pos : String} {af : Array Edge} {gd : Option (Nat × Bool)} {inf : TypeInfo} (ht : P.underlying t = some (.slice e)) (hinf : P.info? e = some inf) (hsz : inf.size = sz)
    (hp : p = n) (hq : q = n) (hN : d < bs.N) (hc : cOk [(x, sv (.d (.sl tag nn sz n el))), (y, dv (.int .i64 p)), (z, dv (.int .i64 q))]) :
    ORule P bs ⟨some d, .slice t x none (some y) (some z), ty, pos, af, gd⟩ ⟨rtOf [(x, sv (.d (.sl tag nn sz n el))), (y, dv (.int .i64 p)), (z, dv (.int .i64 q))], [], [(d, sv (.cl tag nn sz n el))], []⟩ :=
  .val rfl hN hc fun B S U s a w g _ he => by
    obtain ⟨ao, cap, hv, h1, h2, h3, h4⟩ := he.1
    have hy : a.eval y = .int .i64 p := he.2.1
    have hz : a.eval z = .int .i64 q := he.2.2.1
    subst hsz
    have hb : boundsOk n cap none (some (y, p)) (some (z, q)) 0 n n := ⟨⟨hq, h1, rfl⟩, ⟨hp, Nat.le_refl _⟩, rfl⟩
    have hmx := run_sliceAt (P := P) ht hinf (a := ao) (w := w) hb
    simp only [Option.map_none, Option.map_some] at hmx
    have hadd : ∀ ad : Addr, ad.add 0 = ad := fun ad => by simp [Addr.add]
    have hval : (if n = 0 then ao else ao.map (·.add (0 * inf.size))) = ao := by
      split
      · rfl
      · cases ao <;> simp [hadd]
    rw [hval] at hmx
    refine ⟨.slice ao n n, ?_, ⟨ao, n, rfl, Nat.le_refl _, fun h => ?_, h3, h4⟩, ao, rfl⟩
    · simp only [execOp, hv, hy, hz, Option.map_none, Option.map_some, Sem.run_bind, hmx]
      rfl
    · have := h2 h; omega

/-- A cut of an object's slice. -/
theorem r_sliceO {d lo0 sz off n l h : Nat} {x : Operand} {lo hi : Option (Operand × Int)} {lo' hi' : Option Operand} {t e ty : TypeId} {pos : String} {af : Array Edge} {gd : Option (Nat × Bool)} {inf : TypeInfo} (ht : P.underlying t = some (.slice e)) (hinf : P.info? e = some inf) (hsz : inf.size = sz)
    (hlo' : lo' = lo.map (·.1)) (hhi' : hi' = hi.map (·.1)) (hl : match lo with | none => l = 0 | some p => p.2 = l) (hh : match hi with | none => h = n | some p => p.2 = h) (hlh : l ≤ h) (hhn : h ≤ n) {n' off' : Nat} (hn' : h - l = n') (hoff : off + l = off') (hN : d < bs.N) (hc : cOk ((x, sv (.own lo0 sz off n)) :: (oOps lo ++ oOps hi))) :
    ORule P bs ⟨some d, .slice t x lo' hi' none, ty, pos, af, gd⟩ ⟨rtOf ((x, sv (.own lo0 sz off n)) :: (oOps lo ++ oOps hi)), [], [(d, sv (.own lo0 sz off' n'))], []⟩ :=
  .val rfl hN hc fun B S U s a w g _ he => by
    obtain ⟨he1, he2⟩ := evs_append.1 he.2
    subst hsz
    subst hlo'
    subst hhi'
    have bnd : ∀ cap, n ≤ cap → boundsOk n cap lo hi none l h cap := fun cap hcap => by
      refine ⟨rfl, ?_, ?_⟩
      · cases hi with
        | none => exact hh
        | some p => exact ⟨hh, by omega⟩
      · cases lo with
        | none => exact hl
        | some p => exact ⟨hl, hlh⟩
    rcases he.1 with ⟨hb, h0, hn0, hv⟩ | ⟨b, κ, o, cap, hb, hv, hcap, hle, ho⟩
    · have hmx := run_sliceAt (P := P) (mx := none) ht hinf (a := none) (w := w) (bnd 0 (by omega))
      rw [hn0] at hmx
      refine ⟨.slice none 0 0, ?_, .inl ⟨hb, by omega, by omega, rfl⟩⟩
      simp only [execOp, hv, oOps_eval he1, oOps_eval he2, Sem.run_bind, Option.map_none] at hmx ⊢
      rw [hmx]
      simp [show l = 0 by omega, show h = 0 by omega]
    · have hmx := run_sliceAt (P := P) (mx := none) ht hinf (a := some ⟨b, o, none⟩) (w := w) (bnd cap hle)
      refine ⟨.slice (if cap = l then some ⟨b, o, none⟩ else some ⟨b, o + l * inf.size, none⟩) (h - l) (cap - l), ?_, .inr ⟨b, κ, if cap = l then o else o + l * inf.size, cap - l, hb, ?_, by omega, by omega, fun h' => ?_⟩⟩
      · simp only [execOp, hv, oOps_eval he1, oOps_eval he2, Sem.run_bind, Option.map_none, Option.map_some, add_eq] at hmx ⊢
        rw [hmx]
        rfl
      · split <;> simp [hn']
      · split
        · have : off = 0 ∧ l = 0 := by omega
          rw [ho (by omega), ← hoff, this.1, this.2]
        · rw [ho (by omega), ← hoff, Nat.add_mul]

/-! ### Append -/

def cellD : DV → Bool
  | .any => false
  | .val v => cellV v
  | .sl .. => true

theorem oneCell_of {v : Value} (h : cellV v = true) : v.oneCell' = true := by cases v <;> first | rfl | cases h

theorem cellD_spec {S U : Nat → Prop} {w : World} {x : DV} {v : Value} (h : cellD x = true) (hv : dOk S U w x v) : v.oneCell' = true := oneCell_of (cellS_spec (B := fun _ => none) (s := .d x) (by cases x <;> first | exact h | rfl) hv)

/-- Cells that make up n elements. -/
def rowOk (S U : Nat → Prop) (w : World) (sz n : Nat) (el : Nat → Nat → DV) (cs : List Value) : Prop := cs.length = n * sz ∧ ∀ i, i < n → ∀ j, j < sz → ∃ u, cs[i * sz + j]? = some u ∧ dOk S U w (el i j) u

/-- What is appended: a shared slice, an object's slice that is only read, nothing. -/
def srcLike (rh : List (Nat × HS)) (sz m : Nat) (el : Nat → Nat → DV) : SV → Prop
  | .d (.sl _ _ sz' m' el') => sz' = sz ∧ m' = m ∧ ∀ i j, i < m → el' i j = el i j
  | .cl _ _ sz' m' el' => sz' = sz ∧ m' = m ∧ ∀ i j, i < m → el' i j = el i j
  | .own l sz' off m' => sz' = sz ∧ m' = m ∧ ∃ T n0 el', (l, HS.live (.arr T sz n0 el')) ∈ rh ∧ off + m ≤ n0 ∧ ∀ i j, i < m → el i j = el' (off + i) j
  | .d (.val v) => v = .slice none 0 0 ∧ m = 0
  | _ => False

theorem idx_split {n sz k : Nat} (h : k < n * sz) : k / sz < n ∧ k % sz < sz ∧ k / sz * sz + k % sz = k := by
  have hsz : 0 < sz := by
    rcases Nat.eq_zero_or_pos sz with h0 | h0
    · subst h0; simp at h
    · exact h0
  exact ⟨(Nat.div_lt_iff_lt_mul hsz).2 h, Nat.mod_lt _ hsz, by rw [Nat.mul_comm]; exact Nat.div_add_mod k sz⟩

theorem mk_row {S U : Nat → Prop} {w : World} {sz n : Nat} {el : Nat → Nat → DV} (f : Nat → Option Value) (h : ∀ i, i < n → ∀ j, j < sz → ∃ u, f (i * sz + j) = some u ∧ dOk S U w (el i j) u) :
    ∃ cs : List Value, rowOk S U w sz n el cs ∧ ∀ k u, cs[k]? = some u → f k = some u := by
  have key : ∀ k, k < n * sz → ∃ u, f k = some u := fun k hk => by
    obtain ⟨h1, h2, h3⟩ := idx_split hk
    obtain ⟨u, hu, _⟩ := h _ h1 _ h2
    exact ⟨u, by rw [← h3]; exact hu⟩
  have hex : ∀ m, m ≤ n * sz → ∃ cs : List Value, cs.length = m ∧ ∀ k, k < m → cs[k]? = f k := by
    intro m
    induction m with
    | zero => intro _; exact ⟨[], rfl, fun k hk => absurd hk (Nat.not_lt_zero _)⟩
    | succ m ih =>
      intro hm
      obtain ⟨cs, h1, h2⟩ := ih (by omega)
      obtain ⟨u, hu⟩ := key m (by omega)
      refine ⟨cs ++ [u], by simp [h1], fun k hk => ?_⟩
      by_cases e : k = m
      · subst e
        rw [List.getElem?_append_right (by omega), h1, Nat.sub_self, hu]
        rfl
      · rw [List.getElem?_append_left (by omega)]
        exact h2 k (by omega)
  obtain ⟨cs, h1, h2⟩ := hex (n * sz) (Nat.le_refl _)
  refine ⟨cs, ⟨h1, fun i hi j hj => ?_⟩, fun k u hk => ?_⟩
  · obtain ⟨u, hu, hd⟩ := h i hi j hj
    have : i * sz + j < n * sz := by
      calc i * sz + j < i * sz + sz := by omega
        _ = (i + 1) * sz := by rw [Nat.add_mul, Nat.one_mul]
        _ ≤ n * sz := Nat.mul_le_mul_right _ hi
    exact ⟨u, (h2 _ this).trans hu, hd⟩
  · have : k < cs.length := (List.getElem?_eq_some_iff.1 hk).1
    rw [← h2 k (by omega)]
    exact hk

theorem row_cell {S U : Nat → Prop} {w : World} {sz n : Nat} {el : Nat → Nat → DV} {cs : List Value} (h : rowOk S U w sz n el cs) (hc : ∀ i j, i < n → j < sz → cellD (el i j) = true) : ∀ u, u ∈ cs → u.oneCell' = true := by
  intro u hu
  obtain ⟨k, hk, e⟩ := List.getElem_of_mem hu
  have hk' : k < n * sz := by rw [← h.1]; exact hk
  obtain ⟨h1, h2, h3⟩ := idx_split hk'
  obtain ⟨v, hv, hd⟩ := h.2 _ h1 _ h2
  rw [h3, List.getElem?_eq_getElem hk] at hv
  cases hv
  rw [← e]
  exact cellD_spec (hc _ _ h1 h2) hd

theorem src_cells {B : Bk} {S U : Nat → Prop} {s : St} {a : Act} {w : World} (g : G bs B S U s a w) {rh : List (Nat × HS)} (hh : satH rh s.h) {sz m : Nat} {el : Nat → Nat → DV} {y : SV} {v : Value} (hy : srcLike rh sz m el y) (hv : svOk B S U w y v) :
    ∃ ao c cs, v = .slice ao m c ∧ rowOk S U w sz m el cs ∧ (ao = none → m = 0 ∧ c = 0) ∧ ∀ ad, ao = some ad → ∀ k u, cs[k]? = some u → w.cell? (ad.add k) = some u := by
  have shared : ∀ (tag nn : Bool) (el' : Nat → Nat → DV), (∀ i j, i < m → el' i j = el i j) → dOk S U w (.sl tag nn sz m el') v →
      ∃ ao c cs, v = .slice ao m c ∧ rowOk S U w sz m el cs ∧ (ao = none → m = 0 ∧ c = 0) ∧ ∀ ad, ao = some ad → ∀ k u, cs[k]? = some u → w.cell? (ad.add k) = some u := by
    intro tag nn el' hel hd
    obtain ⟨ao, cap, hv, h1, h2, h3, h4⟩ := hd
    cases ao with
    | none =>
      have : cap = 0 := h2 rfl
      have hm : m = 0 := by omega
      subst hm
      exact ⟨none, cap, [], hv, ⟨by simp, fun i hi => absurd hi (Nat.not_lt_zero _)⟩, fun _ => ⟨rfl, this⟩, fun ad h => by cases h⟩
    | some ad =>
      obtain ⟨cs, hr, hg⟩ := mk_row (S := S) (U := U) (w := w) (sz := sz) (n := m) (el := el) (fun k => w.cell? (ad.add k)) fun i hi j hj => by
        obtain ⟨ad', ha, hs, hb, hc⟩ := h4 i hi
        cases ha
        obtain ⟨u, hu, hd⟩ := hc j hj
        exact ⟨u, by simp only [add_eq' hs]; exact hu, by rw [← hel i j hi]; exact hd⟩
      refine ⟨some ad, cap, cs, hv, hr, (fun h => by cases h), fun ad' h k u hk => ?_⟩
      cases h
      exact hg k u hk
  match y, hy with
  | .d (.sl tag nn sz' m' el'), ⟨h1, h2, h3⟩ => subst h1; subst h2; exact shared tag nn el' h3 hv
  | .cl tag nn sz' m' el', ⟨h1, h2, h3⟩ => subst h1; subst h2; exact shared tag nn el' h3 hv.1
  | .d (.val u), ⟨h1, h2⟩ =>
    have hv' : v = u := hv
    subst h1
    subst h2
    subst hv'
    exact ⟨none, 0, [], rfl, ⟨by simp, fun i hi => absurd hi (Nat.not_lt_zero _)⟩, fun _ => ⟨rfl, rfl⟩, fun ad h => by cases h⟩
  | .own l sz' off m', ⟨h1, h2, T, n0, el', h3, h4, h5⟩ =>
    subst h1
    subst h2
    have hob := g.ob l _ (satH_mem hh _ h3)
    rcases hv with ⟨_, _, hn0, hv⟩ | ⟨b, κ, o, cap, hb, hv, hcap, hle, ho⟩
    · subst hn0
      exact ⟨none, 0, [], hv, ⟨by simp, fun i hi => absurd hi (Nat.not_lt_zero _)⟩, fun _ => ⟨rfl, rfl⟩, fun ad h => by cases h⟩
    · rcases hob with ⟨hob, _⟩ | ⟨b', κ', cur, hb', hcur, hsz, hnk, hkm', hel⟩
      · rw [hb] at hob; cases hob
      · rw [hb] at hb'
        cases hb'
        obtain ⟨cs, hr, hg⟩ := mk_row (S := S) (U := U) (w := w) (sz := sz') (n := m') (el := el) (fun k => cur[off * sz' + k]?) fun i hi j hj => by
          obtain ⟨u, hu, hd⟩ := hel (off + i) (by omega) j hj
          exact ⟨u, by rw [← Nat.add_assoc, ← Nat.add_mul]; exact hu, by rw [h5 i j hi]; exact hd⟩
        refine ⟨some ⟨b, o, none⟩, cap, cs, hv, hr, (fun h => by cases h), fun ad h k u hk => ?_⟩
        cases h
        have hkl : k < m' * sz' := by rw [← hr.1]; exact (List.getElem?_eq_some_iff.1 hk).1
        have : 0 < m' := by
          rcases Nat.eq_zero_or_pos m' with h0 | h0
          · subst h0; simp at hkl
          · exact h0
        rw [add_eq, ho (by omega)]
        exact cell_of_block hcur (hg k u hk)

/-- What is known of an element's type. -/
def Elem (P : Program) (t e sz bytes : Nat) : Prop := P.underlying t = some (.slice e) ∧ ∃ i z, P.info? e = some i ∧ i.zero = some z ∧ i.size = sz ∧ i.bytes = bytes ∧ z.cells.size = sz ∧ 0 < sz

theorem row_new (w : World) (e sz : Nat) (z : Value) (hz : z.cells.size = sz) (olds news : List Value) (n m C : Nat) (hlo : olds.length = n * sz) (hln : news.length = m * sz) (hC : n + m ≤ C) (hCm : C ≤ maxLen) (row : Option Nat) :
    (w.drew.alloc (.cells (olds.toArray ++ news.toArray ++ Builtin.zeroCells z.cells (C - (n + m))) e)).ownsRow 0 e sz (.slice (some ⟨w.heap.size, 0, none⟩) (n + m) C) (n + m) (olds ++ news) ∧
      w.grownBy (w.drew.alloc (.cells (olds.toArray ++ news.toArray ++ Builtin.zeroCells z.cells (C - (n + m))) e)) row := by
  have hlen : (olds ++ news).length = (n + m) * sz := by rw [List.length_append, hlo, hln, Nat.add_mul]
  refine ⟨⟨hlen, .inr ⟨w.heap.size, C, _, rfl, Nat.zero_le _, heap_alloc_new w.drew _, hC, hCm, ?_, ?_⟩⟩, rfl, rfl, rfl, by simp, fun k hk _ => Below.heap_alloc w.drew _ k hk⟩
  · simp only [Array.size_append, List.size_toArray, size_zeroCells, hz, hlo, hln, ← Nat.add_mul]
    rw [show n + m + (C - (n + m)) = C from by omega]
  · simp only [Array.toList_append, List.append_assoc]
    rw [← List.append_assoc, ← hlen]
    exact List.take_left

theorem run_append_any {t ty e sz bytes : Nat} (hE : Elem P t e sz bytes) {w : World} {v : Value} {n : Nat} {xs : List Value} (hown : w.ownsRow 0 e sz v n xs) {ao : Option Addr} {m c : Nat} {news : List Value} (hl : news.length = m * sz) (hnone : ao = none → m = 0 ∧ c = 0)
    (hn : ∀ ad, ao = some ad → ∀ k u, news[k]? = some u → w.cell? (ad.add k) = some u) (h1 : ∀ u, u ∈ news → u.oneCell' = true) (h63 : n + m ≤ maxLen) (hb : (n + m) * bytes ≤ 140737488355328) :
    ∃ v' w', (Builtin.append_ #[t, t] ty #[v, .slice ao m c]).run P w = .ok v' w' ∧ w'.ownsRow 0 e sz v' (n + m) (xs ++ news) ∧ w.grownBy w' v.ownBlock ∧ ∀ k, v'.ownBlock = some k → (v.ownBlock = some k ∨ w.heap.size ≤ k) := by
  obtain ⟨ht, i, z, hi, hz, hs, hby, hzs, hpos⟩ := hE
  cases ao with
  | some ad =>
    have hnews := hn ad rfl
    rcases hown.2 with ⟨rfl, rfl⟩ | ⟨g, cap, cur, rfl, hbg, hg, hnc, hcm, hcs, htake⟩
    · have hx : xs = [] := List.eq_nil_of_length_eq_zero (by simpa using hown.1)
      subst hx
      by_cases hm : m = 0
      · subst hm
        have hnil : news = [] := List.eq_nil_of_length_eq_zero (by simpa using hl)
        subst hnil
        refine ⟨.slice none 0 0, w, ?_, World.ownsRow_nil w 0 e sz, ⟨rfl, rfl, rfl, Nat.le_refl _, fun _ _ _ => rfl⟩, fun k hk => by cases hk⟩
        simp [Builtin.append_, run_underlying ht, sizeOf, typeInfo, hi, Builtin.lenOf, Builtin.firstCells, loadCells, loadCellsFrom]
      · have hr := run_append_nil (P := P) w t ty e i z ht hi hz ad m c news (by rw [hs]; exact hl) hnews (by omega) (by simp only [maxLen] at h63; omega) (by rw [hby]; simp only [Nat.zero_add] at hb; omega)
        have hC := grownCap_ge w m 0 e
        have hCm := grownCap_le_maxLen w m 0 e (by omega)
        obtain ⟨r1, r2⟩ := row_new w e sz z hzs [] news 0 m (grownCap w m 0 e) (by simp) hl (by omega) hCm (Value.ownBlock (.slice none 0 0))
        simp only [Nat.zero_add, List.nil_append, Array.empty_append] at r1 r2 ⊢
        exact ⟨_, _, hr, r1, r2, fun k hk => by simp only [Value.ownBlock, Option.some.injEq] at hk; exact .inr (by omega)⟩
    · by_cases hroom : n + m ≤ cap
      · have hfit : n * i.size + news.length ≤ cur.size := by rw [hl, hs, hcs, ← Nat.add_mul]; exact Nat.mul_le_mul_right _ hroom
        have hr := run_append_room (P := P) w t ty e i ht hi g n cap cur hg ad m c news (by rw [hs]; exact hl) hnews h1 hroom hfit
        rw [hs] at hr
        refine ⟨_, _, hr, ⟨by rw [List.length_append, hown.1, hl, Nat.add_mul], .inr ⟨g, cap, _, rfl, hbg, setRow_heap w g cur _ e _ hg, hroom, hcm, ?_, ?_⟩⟩, ⟨rfl, rfl, rfl, by simp, fun k _ hk => setRow_other w g k _ (fun e => hk (by simp [Value.ownBlock, e]))⟩, fun k hk => .inl hk⟩
        · simp only [List.size_toArray, List.length_append, List.length_take, List.length_drop, Array.length_toList]
          rw [hs] at hfit
          omega
        · rw [htake, show (n + m) * sz = (xs ++ news).length by rw [List.length_append, hown.1, hl, Nat.add_mul]]
          exact List.take_left
      · have holds : ∀ j u, xs[j]? = some u → w.cell? ((⟨g, 0, none⟩ : Addr).add j) = some u := hown.cells (g := g) rfl
        have hr := run_append_grow (P := P) w t ty e i z ht hi hz ⟨g, 0, none⟩ n cap xs (by rw [hs]; exact hown.1) holds ad m c news (by rw [hs]; exact hl) hnews (by omega) (by simp only [maxLen] at h63; omega) (growslice_fits (by omega) (by rw [hby]; exact hb))
        have hC := grownCap_ge w (n + m) cap e
        have hCm := grownCap_le_maxLen w (n + m) cap e h63
        obtain ⟨r1, r2⟩ := row_new w e sz z hzs xs news n m (grownCap w (n + m) cap e) hown.1 hl hC hCm (Value.ownBlock (.slice (some ⟨g, 0, none⟩) n cap))
        exact ⟨_, _, hr, r1, r2, fun k hk => by simp only [Value.ownBlock, Option.some.injEq] at hk; exact .inr (by omega)⟩
  | none =>
    obtain ⟨rfl, rfl⟩ := hnone rfl
    have hnil : news = [] := List.eq_nil_of_length_eq_zero (by simpa using hl)
    subst hnil
    refine ⟨v, w, ?_, by simpa using hown, ⟨rfl, rfl, rfl, Nat.le_refl _, fun _ _ _ => rfl⟩, fun k hk => .inl hk⟩
    rcases hown.2 with ⟨rfl, rfl⟩ | ⟨g, cap, cur, rfl, hbg, hg, hnc, _⟩
    · simp [Builtin.append_, run_underlying ht, sizeOf, typeInfo, hi, Builtin.lenOf, Builtin.firstCells]
    · simp [Builtin.append_, run_underlying ht, sizeOf, typeInfo, hi, Builtin.lenOf, Builtin.firstCells, hnc, storeCells]

/-- Where an owned row lies. -/
def rowBk : Value → Option (Nat × Nat)
  | .slice (some a) _ c => some (a.block, c)
  | _ => none

theorem rowOk_app {S U : Nat → Prop} {w : World} {sz n m : Nat} {el el2 el' : Nat → Nat → DV} {cs ds : List Value} (h1 : rowOk S U w sz n el cs) (h2 : rowOk S U w sz m el2 ds) (hel : ∀ i j, i < n + m → el' i j = if i < n then el i j else el2 (i - n) j) : rowOk S U w sz (n + m) el' (cs ++ ds) := by
  refine ⟨by rw [List.length_append, h1.1, h2.1, Nat.add_mul], fun i hi j hj => ?_⟩
  rw [hel i j hi]
  split
  · rename_i hlt
    obtain ⟨u, hu, hd⟩ := h1.2 i hlt j hj
    refine ⟨u, ?_, hd⟩
    rw [List.getElem?_append_left (List.getElem?_eq_some_iff.1 hu).1]
    exact hu
  · rename_i hge
    obtain ⟨u, hu, hd⟩ := h2.2 (i - n) (by omega) j hj
    refine ⟨u, ?_, hd⟩
    have : i * sz = n * sz + (i - n) * sz := by rw [← Nat.add_mul]; congr 1; omega
    rw [List.getElem?_append_right (by rw [h1.1]; omega), h1.1, this, show n * sz + (i - n) * sz + j - n * sz = (i - n) * sz + j by omega]
    exact hu

/-- The object of an owned row that a grown world has. -/
theorem G.row {B : Bk} {S U : Nat → Prop} {s : St} {a : Act} {w w' : World} (g : G bs B S U s a w) (old : List Nat) (l2 : Nat) (hl2 : hget s.h l2 = .free) (hold : ∀ l, l ∈ old → ∃ o, hget s.h l = .live o) {v' : Value} {e sz N : Nat} {cells : List Value} {el : Nat → Nat → DV} {row : Option Nat}
    (hown : w'.ownsRow 0 e sz v' N cells) (hgr : w.grownBy w' row) (hrow : ∀ b, row = some b → ∃ l κ, l ∈ old ∧ B l = some (some (b, κ))) (hnew : ∀ k, v'.ownBlock = some k → (row = some k ∨ w.heap.size ≤ k)) (hcells : rowOk S U w sz N el cells) :
    G bs (bset B l2 (rowBk v')) S U ⟨s.t, hsets s.h ((old.map fun l => (l, HS.dead)) ++ [(l2, .live (.arr e sz N el))])⟩ a w' ∧ svOk (bset B l2 (rowBk v')) S U w' (.own l2 sz 0 N) v' := by
  have hBl := g.fr l2 hl2
  have hne : ∀ l, l ∈ old → l ≠ l2 := fun l hl e => by
    obtain ⟨o, ho⟩ := hold l hl
    rw [e, hl2] at ho
    cases ho
  have happ : ∀ (p q : List (Nat × HS)) (h : List HS), hsets h (p ++ q) = hsets (hsets h p) q := by
    intro p
    induction p with
    | nil => intro q h; rfl
    | cons x p ih => intro q h; exact ih q _
  have hdead : ∀ (old : List Nat) (h : List HS) (k : Nat), hget (hsets h (old.map fun l => (l, HS.dead))) k = if k ∈ old then .dead else hget h k := by
    intro old
    induction old with
    | nil => intro h k; simp [hsets]
    | cons x old ih =>
      intro h k
      simp only [List.map_cons, hsets, ih]
      by_cases h1 : k ∈ old
      · simp [h1]
      · by_cases h2 : k = x
        · subst h2; simp [h1, hget_hset]
        · simp [h1, h2, hget_hset]
  have hget' : ∀ k, hget (hsets s.h ((old.map fun l => (l, HS.dead)) ++ [(l2, .live (.arr e sz N el))])) k = if k = l2 then .live (.arr e sz N el) else if k ∈ old then .dead else hget s.h k := fun k => by
    rw [happ]
    simp only [hsets]
    rw [hget_hset, hdead]
  have hP : Pres (fun b => S b ∨ U b) w w' := fun b hb => by
    have hU : U b := hb.elim (g.su b) id
    refine hgr.block b (g.ub b hU) fun h => ?_
    obtain ⟨l, κ, hl, hbl⟩ := hrow b h.symm
    obtain ⟨o, ho⟩ := hold l hl
    exact g.sp l o (b, κ) ho hbl hU
  have hCf : ∀ k, v'.ownBlock = some k → (bs.C k ∨ bs.w0.heap.size ≤ k) ∧ ¬ U k ∧ ∀ k' o' q, ¬ (k' = l2 ∨ k' ∈ old) → hget s.h k' = .live o' → B k' = some (some q) → q.1 ≠ k := fun k hk => by
    rcases hnew k hk with h | h
    · obtain ⟨l, κ, hl, hbl⟩ := hrow k h
      obtain ⟨o, ho⟩ := hold l hl
      exact ⟨g.cf l o (k, κ) ho hbl, g.sp l o (k, κ) ho hbl, fun k' o' q hk' ho' hq => g.nj k' l o' o ho' ho (fun e => hk' (.inr (e ▸ hl))) q (k, κ) hq hbl⟩
    · refine ⟨.inr (Nat.le_trans g.hs h), fun hU => ?_, fun k' o' q _ ho' hq e => ?_⟩
      · have := g.ub k hU; omega
      · have := obOk_lt (g.ob k' o' ho') hq; omega
  have hsv : svOk (bset B l2 (rowBk v')) S U w' (.own l2 sz 0 N) v' := by
    rcases hown.2 with ⟨rfl, rfl⟩ | ⟨b, cap, cur, rfl, _, hb, hnc, hcm, hcs, htake⟩
    · exact .inl ⟨by simp [bset, rowBk], rfl, rfl, rfl⟩
    · exact .inr ⟨b, cap, 0, cap, by simp [bset, rowBk], rfl, by omega, hnc, fun _ => by simp⟩
  refine ⟨?_, hsv⟩
  refine g.upd (fun k => k = l2 ∨ k ∈ old) _ (fun k hk => ?_) (fun k p hp => ?_) (fun k hk => ?_) (fun _ h => h) (fun _ h => h) g.su (fun b hb => Nat.lt_of_lt_of_le (g.ub b hb) hgr.size) (fun _ h => .inl h) (fun _ h => .inl h) ?_ ?_ (fun b hb hne' => ?_) ?_ (fun k o q _ hk hq => g.sp k o q hk hq) hgr.size hgr.os hgr.tape hgr.output
  · rw [hget', if_neg (fun e => hk (.inl e)), if_neg (fun e => hk (.inr e))]
  · unfold bset
    split
    · rename_i h; subst h; rw [hBl] at hp; cases hp
    · exact hp
  · unfold bset
    rw [if_neg (fun e => hk (.inl e))]
  · intro k o hk ho
    rw [hget'] at ho
    split at ho
    · rename_i hkl
      subst hkl
      cases ho
      constructor
      · rcases hown.2 with ⟨rfl, rfl⟩ | ⟨b, cap, cur, rfl, _, hb, hnc, hcm, hcs, htake⟩
        · exact .inl ⟨by simp [bset, rowBk], rfl⟩
        · refine .inr ⟨b, cap, cur, by simp [bset, rowBk], hb, hcs, hnc, hcm, fun i hi j hj => ?_⟩
          obtain ⟨u, hu, hd⟩ := hcells.2 i hi j hj
          refine ⟨u, ?_, dOk_mono (fun _ h => h) (fun _ h => h) hP _ _ hd⟩
          rw [← htake, List.getElem?_take] at hu
          split at hu
          · simpa using hu
          · cases hu
      · intro p hp
        have hbk : v'.ownBlock = some p.1 := by
          simp only [bset, if_true, Option.some.injEq] at hp
          rcases hown.2 with ⟨rfl, rfl⟩ | ⟨b, cap, cur, rfl, _⟩
          · cases hp
          · simp only [rowBk, Option.some.injEq] at hp
            subst hp
            rfl
        obtain ⟨h1, h2, h3⟩ := hCf p.1 hbk
        exact ⟨h2, h1, h3⟩
    · split at ho
      · cases ho
      · rcases hk with h | h <;> contradiction
  · intro k k' o o' p p' hk hk' ho ho' hne' hp hp'
    rw [hget'] at ho ho'
    exfalso
    have key : ∀ k o, (k = l2 ∨ k ∈ old) → (if k = l2 then HS.live (.arr e sz N el) else if k ∈ old then .dead else hget s.h k) = .live o → k = l2 := fun k o hk ho => by
      split at ho
      · assumption
      · split at ho
        · cases ho
        · rcases hk with h | h <;> contradiction
    exact hne' ((key k o hk ho).trans (key k' o' hk' ho').symm)
  · refine hgr.block b hb fun h => ?_
    obtain ⟨l, κ, hl, hbl⟩ := hrow b h.symm
    obtain ⟨o, ho⟩ := hold l hl
    exact hne' l o (b, κ) (.inr hl) ho hbl rfl
  · intro k hk h
    rw [hget'] at h
    split at h
    · cases h
    · split at h
      · cases h
      · rcases hk with h' | h' <;> contradiction

theorem own_row {B : Bk} {S U : Nat → Prop} {s : St} {a : Act} {w : World} (g : G bs B S U s a w) {l T sz n0 n : Nat} {el : Nat → Nat → DV} (hl : hget s.h l = .live (.arr T sz n0 el)) (hn : n ≤ n0) {v : Value} (hv : svOk B S U w (.own l sz 0 n) v) :
    ∃ cs, w.ownsRow 0 T sz v n cs ∧ rowOk S U w sz n el cs ∧ ∀ b, v.ownBlock = some b → ∃ κ, B l = some (some (b, κ)) := by
  have hob := g.ob l _ hl
  rcases hv with ⟨hb, _, hn0, hv⟩ | ⟨b, κ, o, cap, hb, hv, hcap, hle, ho⟩
  · subst hn0
    subst hv
    exact ⟨[], World.ownsRow_nil w 0 T sz, ⟨by simp, fun i hi => absurd hi (Nat.not_lt_zero _)⟩, fun b h => by cases h⟩
  · rcases hob with ⟨hob, _⟩ | ⟨b', κ', cur, hb', hcur, hsz, hnk, hkm, hel⟩
    · rw [hb] at hob; cases hob
    · rw [hb] at hb'
      cases hb'
      have ho' : o = 0 := by rw [ho (.inr rfl)]; simp
      subst ho'
      have hcap' : cap = κ := by omega
      subst hcap'
      have hlen : n * sz ≤ cur.size := by rw [hsz]; exact Nat.mul_le_mul_right _ hle
      refine ⟨cur.toList.take (n * sz), ⟨by simp; omega, .inr ⟨b, cap, cur, hv, Nat.zero_le _, hcur, hle, hkm, hsz, rfl⟩⟩, ⟨by simp; omega, fun i hi j hj => ?_⟩, fun b' h => ?_⟩
      · obtain ⟨u, hu, hd⟩ := hel i (by omega) j hj
        refine ⟨u, ?_, hd⟩
        have : i * sz + j < n * sz := by
          calc i * sz + j < i * sz + sz := by omega
            _ = (i + 1) * sz := by rw [Nat.add_mul, Nat.one_mul]
            _ ≤ n * sz := Nat.mul_le_mul_right _ hi
        rw [List.getElem?_take, if_pos this]
        simpa using hu
      · rw [hv] at h
        simp only [Value.ownBlock, Option.some.injEq] at h
        exact ⟨cap, by rw [← h]; exact hb⟩

theorem run_appendOp {d : Nat} {x y : Operand} {t ty : TypeId} {pos : String} {af : Array Edge} {gd : Option (Nat × Bool)} {a : Act} {w w' : World} {v : Value} (h : (Builtin.append_ #[t, t] ty #[a.eval x, a.eval y]).run P w = .ok v w') :
    (execOp a.eval ⟨some d, .call { callee := .builtin .append, args := #[x, y], argTypes := #[t, t] }, ty, pos, af, gd⟩).run P w = .ok (.value v) w' := by
  simp only [execOp, resolve, invoke, builtin, Sem.run_bind, Sem.run_pure, Result.andThen_ok, List.map_toArray, List.map_cons, List.map_nil, h]

/-- Append to a slice of an object's own. -/
theorem r_appendO {d l l2 e sz bytes n n0 m : Nat} {el el2 el' : Nat → Nat → DV} {x y : Operand} {ys : SV} {rhs : List (Nat × HS)} {t ty : TypeId} {pos : String} {af : Array Edge} {gd : Option (Nat × Bool)} (hE : Elem P t e sz bytes) (hn : n ≤ n0) (hy : srcLike rhs sz m el2 ys) (hcell : ∀ i j, i < m → j < sz → cellD (el2 i j) = true)
    (h63 : n + m ≤ maxLen) (hb : (n + m) * bytes ≤ 140737488355328) (hel : ∀ i j, i < n + m → el' i j = if i < n then el i j else el2 (i - n) j) {N : Nat} (hNm : n + m = N) (hN : d < bs.N) (hc : cOk [(x, sv (.own l sz 0 n)), (y, sv ys)]) :
    ORule P bs ⟨some d, .call { callee := .builtin .append, args := #[x, y], argTypes := #[t, t] }, ty, pos, af, gd⟩
      ⟨rtOf [(x, sv (.own l sz 0 n)), (y, sv ys)], (l, .live (.arr e sz n0 el)) :: (l2, .free) :: rhs, [(d, sv (.own l2 sz 0 N))], [(l, .dead), (l2, .live (.arr e sz N el'))]⟩ :=
  .heap rfl hN hc fun B S U s a w g hh he => by
    obtain ⟨cs, ho, hr, hblk⟩ := own_row g hh.1 hn he.1
    obtain ⟨ao, c, ds, hv, hr2, hnone, hcell2⟩ := src_cells g hh.2.2 hy he.2.1
    obtain ⟨v', w', hrun, ho', hgr, hnew⟩ := run_append_any (P := P) (ty := ty) hE ho hr2.1 hnone hcell2 (row_cell hr2 hcell) h63 hb
    subst hNm
    obtain ⟨g', hs⟩ := g.row [l] l2 hh.2.1 (fun k hk => by simp only [List.mem_singleton] at hk; subst hk; exact ⟨_, hh.1⟩) ho' hgr (fun b hb => by obtain ⟨κ, h⟩ := hblk b hb; exact ⟨l, κ, by simp, h⟩) hnew (rowOk_app hr hr2 hel)
    refine ⟨v', w', _, S, U, run_appendOp ?_, g', hs⟩
    rw [show a.eval y = .slice ao m c from hv]
    exact hrun

/-- Append to nil. -/
theorem r_appendN {d l2 e sz bytes m : Nat} {el2 : Nat → Nat → DV} {x y : Operand} {ys : SV} {rhs : List (Nat × HS)} {t ty : TypeId} {pos : String} {af : Array Edge} {gd : Option (Nat × Bool)} (hE : Elem P t e sz bytes) (hy : srcLike rhs sz m el2 ys) (hcell : ∀ i j, i < m → j < sz → cellD (el2 i j) = true)
    (h63 : m ≤ maxLen) (hb : m * bytes ≤ 140737488355328) (hN : d < bs.N) (hc : cOk [(x, dv (.slice none 0 0)), (y, sv ys)]) :
    ORule P bs ⟨some d, .call { callee := .builtin .append, args := #[x, y], argTypes := #[t, t] }, ty, pos, af, gd⟩
      ⟨rtOf [(x, dv (.slice none 0 0)), (y, sv ys)], (l2, .free) :: rhs, [(d, sv (.own l2 sz 0 m))], [(l2, .live (.arr e sz m el2))]⟩ :=
  .heap rfl hN hc fun B S U s a w g hh he => by
    have hx : a.eval x = .slice none 0 0 := he.1
    obtain ⟨ao, c, ds, hv, hr2, hnone, hcell2⟩ := src_cells g hh.2 hy he.2.1
    obtain ⟨v', w', hrun, ho', hgr, hnew⟩ := run_append_any (P := P) (ty := ty) hE (World.ownsRow_nil w 0 e sz) hr2.1 hnone hcell2 (row_cell hr2 hcell) (by omega) (by simpa using hb)
    simp only [Nat.zero_add, List.nil_append] at ho'
    obtain ⟨g', hs⟩ := g.row [] l2 hh.1 (fun k hk => by cases hk) ho' hgr (fun b hb => by cases hb) (fun k hk => by rcases hnew k hk with h | h; cases h; exact .inr h) hr2
    refine ⟨v', w', _, S, U, run_appendOp ?_, g', hs⟩
    rw [hx, show a.eval y = .slice ao m c from hv]
    exact hrun

/-- Append of something to a shared slice without room. -/
theorem r_appendC {d l2 e sz bytes n m : Nat} {tag nn : Bool} {el el2 el' : Nat → Nat → DV} {x y : Operand} {ys : SV} {rhs : List (Nat × HS)} {t ty : TypeId} {pos : String} {af : Array Edge} {gd : Option (Nat × Bool)} (hE : Elem P t e sz bytes) (hm : 0 < m) (hy : srcLike rhs sz m el2 ys)
    (h63 : n + m ≤ maxLen) (hb : (n + m) * bytes ≤ 140737488355328) (hel : ∀ i j, i < n + m → el' i j = if i < n then el i j else el2 (i - n) j) {N : Nat} (hNm : n + m = N) (hN : d < bs.N) (hc : cOk [(x, sv (.cl tag nn sz n el)), (y, sv ys)]) :
    ORule P bs ⟨some d, .call { callee := .builtin .append, args := #[x, y], argTypes := #[t, t] }, ty, pos, af, gd⟩
      ⟨rtOf [(x, sv (.cl tag nn sz n el)), (y, sv ys)], (l2, .free) :: rhs, [(d, sv (.own l2 sz 0 N))], [(l2, .live (.arr e sz N el'))]⟩ :=
  .heap rfl hN hc fun B S U s a w g hh he => by
    have hx : svOk B S U w (.cl tag nn sz n el) (a.eval x) := he.1
    obtain ⟨hxd, ax, hxv⟩ := hx
    obtain ⟨ao', c', cs, hv', hr, hnone', hcell'⟩ := src_cells g (rh := []) trivial (y := .d (.sl tag nn sz n el)) ⟨rfl, rfl, fun _ _ _ => rfl⟩ hxd
    rw [hxv] at hv'
    simp only [Value.slice.injEq] at hv'
    obtain ⟨rfl, _, rfl⟩ := hv'
    obtain ⟨ao, c, ds, hv, hr2, hnone, hcell2⟩ := src_cells g hh.2 hy he.2.1
    obtain ⟨ht, i, z, hi, hz, hs, hby, hzs, hpos⟩ := hE
    have hyv : a.eval y = .slice ao m c := hv
    obtain ⟨ad, rfl⟩ : ∃ ad, ao = some ad := by
      cases ao with
      | some ad => exact ⟨ad, rfl⟩
      | none => have := (hnone rfl).1; omega
    subst hNm
    cases ax with
    | none =>
      have hn0 : n = 0 := (hnone' rfl).1
      subst hn0
      have hr' := run_append_nil (P := P) w t ty e i z ht hi hz ad m c ds (by rw [hs]; exact hr2.1) (hcell2 ad rfl) hm (by simp only [maxLen] at h63; omega) (by rw [hby]; simp only [Nat.zero_add] at hb; omega)
      have hC := grownCap_ge w m 0 e
      have hCm := grownCap_le_maxLen w m 0 e (by omega)
      obtain ⟨r1, r2⟩ := row_new w e sz z hzs [] ds 0 m (grownCap w m 0 e) (by simp) hr2.1 (by omega) hCm none
      have hcs : cs = [] := List.eq_nil_of_length_eq_zero (by simpa using hr.1)
      subst hcs
      have happ := rowOk_app hr hr2 hel
      simp only [Nat.zero_add, List.nil_append, Array.empty_append] at r1 r2 happ ⊢
      obtain ⟨g', hs'⟩ := g.row [] l2 hh.1 (fun k hk => by cases hk) r1 r2 (fun b hb => by cases hb) (fun k hk => by simp only [Value.ownBlock, Option.some.injEq] at hk; exact .inr (by omega)) happ
      refine ⟨_, _, _, S, U, run_appendOp ?_, g', hs'⟩
      rw [hxv, hyv]
      exact hr'
    | some ax =>
      have hr' := run_append_grow (P := P) w t ty e i z ht hi hz ax n n cs (by rw [hs]; exact hr.1) (hcell' ax rfl) ad m c ds (by rw [hs]; exact hr2.1) (hcell2 ad rfl) (by omega) (by simp only [maxLen] at h63; omega) (growslice_fits (by omega) (by rw [hby]; exact hb))
      have hC := grownCap_ge w (n + m) n e
      have hCm := grownCap_le_maxLen w (n + m) n e h63
      obtain ⟨r1, r2⟩ := row_new w e sz z hzs cs ds n m (grownCap w (n + m) n e) hr.1 hr2.1 hC hCm none
      obtain ⟨g', hs'⟩ := g.row [] l2 hh.1 (fun k hk => by cases hk) r1 r2 (fun b hb => by cases hb) (fun k hk => by simp only [Value.ownBlock, Option.some.injEq] at hk; exact .inr (by omega)) (rowOk_app hr hr2 hel)
      refine ⟨_, _, _, S, U, run_appendOp ?_, g', hs'⟩
      rw [hxv, hyv]
      exact hr'
end Go.Proofs.Ytacikihlgpnjhaa.Q
