import Derived.Test.YtacikihlgpnjhaaQ9
import Derived.Lib.ConvBytes
namespace Go.Proofs.Ytacikihlgpnjhaa.Q
open Go Go.RowKit
set_option linter.unusedVariables false
set_option linter.unusedSimpArgs false

variable {P : Program} {bs : Base}

/-! ### Binary operations on values -/

theorem eqGuard_plain {op : BinOp} {t : TypeId} {x y : Operand} {a b : Value} {w : World} (h : (∀ c, a ≠ .agg c) ∨ (∀ c, b ≠ .agg c)) (h' : a ≠ .nilIface ∨ b ≠ .nilIface) : (eqGuard op t x y a b).run P w = .ok () w := by
  unfold eqGuard
  split
  · cases a <;> cases b <;> first | rfl | (simp at h; done) | (simp at h'; done)
  · cases a <;> cases b <;> first | rfl | (simp at h; done) | (simp at h'; done)
  · rfl

theorem equal_of {t : TypeId} {a b : Value} {r : Bool} {w : World} (h : ∀ n, (Op.equalIn (n + 1) t a b).run P w = .ok r w) : (Op.equal t a b).run P w = .ok r w := h 9999
theorem eql_of {t : TypeId} {a b : Value} {r : Bool} {w : World} (h : ∀ n, (Op.equalIn (n + 1) t a b).run P w = .ok r w) : (do pure (.bool (← Op.equal t a b)) : Sem Value).run P w = .ok (.bool r) w := by
  simp only [Sem.run_bind, equal_of h, Result.andThen_ok, Sem.run_pure]
theorem neq_of {t : TypeId} {a b : Value} {r : Bool} {w : World} (h : ∀ n, (Op.equalIn (n + 1) t a b).run P w = .ok r w) : (do pure (.bool (!(← Op.equal t a b))) : Sem Value).run P w = .ok (.bool (!r)) w := by
  simp only [Sem.run_bind, equal_of h, Result.andThen_ok, Sem.run_pure]
theorem eqIn_slice {t e : TypeId} {ao bo : Option Addr} {n m c d k : Nat} {w : World} (ht : P.underlying t = some (.slice e)) (h : bo = none) : (Op.equalIn (k + 1) t (.slice ao n c) (.slice bo m d)).run P w = .ok ao.isNone w := by
  subst h
  simp only [Op.equalIn, Sem.run_bind, run_underlying' ht, Result.andThen_ok]
  cases ao <;> rfl
theorem eqIn_ptr {t e : TypeId} {ao bo : Option Addr} {k : Nat} {w : World} (ht : P.underlying t = some (.pointer e)) (h : bo = none) : (Op.equalIn (k + 1) t (.pointer ao) (.pointer bo)).run P w = .ok ao.isNone w := by
  subst h
  simp only [Op.equalIn, Sem.run_bind, run_underlying' ht, Result.andThen_ok]
  cases ao <;> rfl
theorem eqIn_bool {t : TypeId} {a b : Bool} {k : Nat} {w : World} (ht : P.underlying t = some .bool) : (Op.equalIn (k + 1) t (.bool a) (.bool b)).run P w = .ok (a == b) w := by
  simp only [Op.equalIn, Sem.run_bind, run_underlying' ht, Result.andThen_ok]
  rfl

theorem bin_of {op : BinOp} {t : TypeId} {a b v : Value} (h : (∀ c, a ≠ .agg c) ∨ (∀ c, b ≠ .agg c)) (h' : a ≠ .nilIface ∨ b ≠ .nilIface) (hr : ∀ w, (binOp op t a b).run P w = .ok v w) : BinR P op t a b v := fun w x y => by
  simp only [Sem.run_bind, eqGuard_plain h h', Result.andThen_ok, hr]

theorem b_add {k : IntKind} {t : TypeId} {a b c : Int} (h : k.wrap (a + b) = c) : BinR P .add t (.int k a) (.int k b) (.int k c) := bin_of (.inl fun _ => by simp) (.inl (by simp)) fun w => by simp [binOp, Op.intArith, h]
theorem b_sub {k : IntKind} {t : TypeId} {a b c : Int} (h : k.wrap (a - b) = c) : BinR P .sub t (.int k a) (.int k b) (.int k c) := bin_of (.inl fun _ => by simp) (.inl (by simp)) fun w => by simp [binOp, Op.intArith, h]
theorem b_mul {k : IntKind} {t : TypeId} {a b c : Int} (h : k.wrap (a * b) = c) : BinR P .mul t (.int k a) (.int k b) (.int k c) := bin_of (.inl fun _ => by simp) (.inl (by simp)) fun w => by simp [binOp, Op.intArith, h]
theorem b_quo {k : IntKind} {t : TypeId} {a b c : Int} (h0 : b ≠ 0) (h : k.wrap (a.tdiv b) = c) : BinR P .quo t (.int k a) (.int k b) (.int k c) := bin_of (.inl fun _ => by simp) (.inl (by simp)) fun w => by simp [binOp, Op.intDiv, h, h0]
theorem b_rem {k : IntKind} {t : TypeId} {a b c : Int} (h0 : b ≠ 0) (h : a.tmod b = c) : BinR P .rem t (.int k a) (.int k b) (.int k c) := bin_of (.inl fun _ => by simp) (.inl (by simp)) fun w => by simp [binOp, Op.intDiv, h, h0]
theorem b_shl {k k' : IntKind} {t : TypeId} {a b c : Int} {n : Nat} (hb : b = n) (hn : n ≤ k.bits) (h : k.wrap (a * 2 ^ n) = c) : BinR P .shl t (.int k a) (.int k' b) (.int k c) := bin_of (.inl fun _ => by simp) (.inl (by simp)) fun w => by
  subst hb
  simp [binOp, Op.shift, h, show ¬ ((n : Int) < 0) by omega, Nat.min_eq_left hn]
theorem b_shr {k k' : IntKind} {t : TypeId} {a b c : Int} {n : Nat} (hb : b = n) (hn : n ≤ k.bits) (h : a.fdiv (2 ^ n) = c) : BinR P .shr t (.int k a) (.int k' b) (.int k c) := bin_of (.inl fun _ => by simp) (.inl (by simp)) fun w => by
  subst hb
  simp [binOp, Op.shift, h, show ¬ ((n : Int) < 0) by omega, Nat.min_eq_left hn]
theorem b_lss {k : IntKind} {t : TypeId} {a b : Int} : BinR P .lss t (.int k a) (.int k b) (.bool (decide (a < b))) := bin_of (.inl fun _ => by simp) (.inl (by simp)) fun w => by simp [binOp, Op.intCmp]
theorem b_leq {k : IntKind} {t : TypeId} {a b : Int} : BinR P .leq t (.int k a) (.int k b) (.bool (decide (a ≤ b))) := bin_of (.inl fun _ => by simp) (.inl (by simp)) fun w => by simp [binOp, Op.intCmp]
theorem b_gtr {k : IntKind} {t : TypeId} {a b : Int} : BinR P .gtr t (.int k a) (.int k b) (.bool (decide (a > b))) := bin_of (.inl fun _ => by simp) (.inl (by simp)) fun w => by simp [binOp, Op.intCmp]
theorem b_geq {k : IntKind} {t : TypeId} {a b : Int} : BinR P .geq t (.int k a) (.int k b) (.bool (decide (a ≥ b))) := bin_of (.inl fun _ => by simp) (.inl (by simp)) fun w => by simp [binOp, Op.intCmp]
theorem b_eql {k : IntKind} {t : TypeId} {a b : Int} : BinR P .eql t (.int k a) (.int k b) (.bool (decide (a = b))) := bin_of (.inl fun _ => by simp) (.inl (by simp)) fun w => by
  have : (a == b) = decide (a = b) := by by_cases h : a = b <;> simp [h]
  simp [binOp, Op.intCmp, this]
theorem b_neq {k : IntKind} {t : TypeId} {a b : Int} : BinR P .neq t (.int k a) (.int k b) (.bool (decide (a ≠ b))) := bin_of (.inl fun _ => by simp) (.inl (by simp)) fun w => by
  have : (a != b) = decide (a ≠ b) := by by_cases h : a = b <;> simp [h]
  simp [binOp, Op.intCmp, this]

/-- A string as a list of bytes. -/
def strV (l : List UInt8) : Value := .string ⟨l.toArray⟩
theorem strV_list (l : List UInt8) : (⟨l.toArray⟩ : ByteArray).toList = l := by simp
theorem strV_eta (s : ByteArray) : Value.string s = strV s.data.toList := rfl
theorem b_eqlS {t : TypeId} {a b : List UInt8} : BinR P .eql t (strV a) (strV b) (.bool (decide (a = b))) := bin_of (.inl fun _ => by simp [strV]) (.inl (by simp [strV])) fun w => by
  have : (a == b) = decide (a = b) := by by_cases h : a = b <;> simp [h]
  simp [strV, binOp, Op.stringOp, this]
theorem b_neqS {t : TypeId} {a b : List UInt8} : BinR P .neq t (strV a) (strV b) (.bool (decide (a ≠ b))) := bin_of (.inl fun _ => by simp [strV]) (.inl (by simp [strV])) fun w => by
  have : (a == b) = decide (a = b) := by by_cases h : a = b <;> simp [h]
  simp [strV, binOp, Op.stringOp, this]
theorem b_eqlB {t : TypeId} {a b : Bool} (ht : P.underlying t = some .bool) : BinR P .eql t (.bool a) (.bool b) (.bool (decide (a = b))) := bin_of (.inl fun _ => by simp) (.inl (by simp)) fun w => by
  have : (a == b) = decide (a = b) := by cases a <;> cases b <;> rfl
  rw [← this]
  exact eql_of fun n => eqIn_bool ht
theorem b_neqB {t : TypeId} {a b : Bool} (ht : P.underlying t = some .bool) : BinR P .neq t (.bool a) (.bool b) (.bool (decide (a ≠ b))) := bin_of (.inl fun _ => by simp) (.inl (by simp)) fun w => by
  have : (!(a == b)) = decide (a ≠ b) := by cases a <;> cases b <;> rfl
  rw [← this]
  exact neq_of fun n => eqIn_bool ht

theorem b_eqlNilS {t e : TypeId} (ht : P.underlying t = some (.slice e)) : BinR P .eql t (.slice none 0 0) (.slice none 0 0) (.bool true) := bin_of (.inl fun _ => by simp) (.inl (by simp)) fun w => by
  exact eql_of fun n => eqIn_slice ht rfl
theorem b_neqNilS {t e : TypeId} (ht : P.underlying t = some (.slice e)) : BinR P .neq t (.slice none 0 0) (.slice none 0 0) (.bool false) := bin_of (.inl fun _ => by simp) (.inl (by simp)) fun w => by
  exact neq_of fun n => eqIn_slice ht rfl
theorem b_eqlNilP {t e : TypeId} (ht : P.underlying t = some (.pointer e)) : BinR P .eql t (.pointer none) (.pointer none) (.bool true) := bin_of (.inl fun _ => by simp) (.inl (by simp)) fun w => by
  exact eql_of fun n => eqIn_ptr ht rfl
theorem b_neqNilP {t e : TypeId} (ht : P.underlying t = some (.pointer e)) : BinR P .neq t (.pointer none) (.pointer none) (.bool false) := bin_of (.inl fun _ => by simp) (.inl (by simp)) fun w => by
  exact neq_of fun n => eqIn_ptr ht rfl

theorem u_not {b : Bool} : UnR P .not (.bool b) (.bool (!b)) := fun w => by simp [Op.unary]
theorem u_neg {k : IntKind} {a c : Int} (h : k.wrap (0 - a) = c) : UnR P .neg (.int k a) (.int k c) := fun w => by simp only [Op.unary, Op.intArith, h]; rfl

theorem c_int {s d : TypeId} {ds : TypeDesc} {k k' : IntKind} {a c : Int} (hs : P.underlying s = some ds) (hd : P.underlying d = some (.int k)) (h : k.wrap a = c) : ConvR P s d (.int k' a) (.int k c) := fun w => by
  simp only [convert, Sem.run_bind, run_underlying' hs, run_underlying' hd, Result.andThen_ok]
  cases ds <;> simp [Conv.intToInt, h]
theorem c_str {s d : TypeId} {l : List UInt8} (hs : P.underlying s = some .string) (hd : P.underlying d = some .string) : ConvR P s d (strV l) (strV l) := fun w => by
  simp only [convert, Sem.run_bind, run_underlying' hs, run_underlying' hd, Result.andThen_ok, strV]
  rfl

/-! ### Nil or not -/

/-- Slices that are not nil. -/
def someSl : SV → Prop
  | .d (.sl _ nn _ n _) => nn = true ∨ 0 < n
  | .cl _ nn _ n _ => nn = true ∨ 0 < n
  | .own _ _ _ n => 0 < n
  | _ => False

theorem someSl_spec {B : Bk} {S U : Nat → Prop} {w : World} : ∀ {s : SV} {v : Value}, someSl s → svOk B S U w s v → ∃ a n c, v = .slice (some a) n c := by
  have key : ∀ {tag nn : Bool} {sz n : Nat} {el : Nat → Nat → DV} {v : Value}, (nn = true ∨ 0 < n) → dOk S U w (.sl tag nn sz n el) v → ∃ a n c, v = .slice (some a) n c := by
    intro tag nn sz n el v h hv
    obtain ⟨ao, cap, hv, h1, h2, h3, h4⟩ := hv
    cases ao with
    | some a => exact ⟨a, n, cap, hv⟩
    | none =>
      rcases h with h | h
      · exact absurd rfl (h3 h)
      · have := h2 rfl; omega
  intro s v h hv
  match s, h with
  | .d (.sl tag nn sz n el), h => exact key h hv
  | .cl tag nn sz n el, h => exact key h hv.1
  | .own l sz off n, h =>
    have h : 0 < n := h
    rcases hv with ⟨_, _, h0, _⟩ | ⟨b, κ, o, cap, _, hv, _⟩
    · omega
    · exact ⟨_, _, _, hv⟩

theorem r_eqNil {d : Nat} {x y : Operand} {s : SV} {t e yt ty : TypeId} {pos : String} {af : Array Edge} {gd : Option (Nat × Bool)} (ht : P.underlying t = some (.slice e)) (hs : someSl s) (hN : d < bs.N) (hc : cOk [(x, sv s), (y, dv (.slice none 0 0))]) : ORule P bs ⟨some d, .binOp .eql t x y yt, ty, pos, af, gd⟩ ⟨rtOf [(x, sv s), (y, dv (.slice none 0 0))], [], [(d, dv (.bool false))], []⟩ :=
  .val rfl hN hc fun B S U s' a w g _ he => by
    obtain ⟨ad, n, c, hv⟩ := someSl_spec hs he.1
    have hy : a.eval y = .slice none 0 0 := he.2.1
    refine ⟨.bool false, ?_, rfl⟩
    have hb : (binOp .eql t (.slice (some ad) n c) (.slice none 0 0)).run P w = .ok (.bool false) w := eql_of (r := false) fun n => eqIn_slice ht rfl
    have hg : (eqGuard .eql t x y (.slice (some ad) n c) (.slice none 0 0)).run P w = .ok () w := eqGuard_plain (.inl fun _ => by simp) (.inl (by simp))
    simp only [execOp, hv, hy, Sem.run_bind, hg, Result.andThen_ok, hb]
    rfl
theorem r_neNil {d : Nat} {x y : Operand} {s : SV} {t e yt ty : TypeId} {pos : String} {af : Array Edge} {gd : Option (Nat × Bool)} (ht : P.underlying t = some (.slice e)) (hs : someSl s) (hN : d < bs.N) (hc : cOk [(x, sv s), (y, dv (.slice none 0 0))]) : ORule P bs ⟨some d, .binOp .neq t x y yt, ty, pos, af, gd⟩ ⟨rtOf [(x, sv s), (y, dv (.slice none 0 0))], [], [(d, dv (.bool true))], []⟩ :=
  .val rfl hN hc fun B S U s' a w g _ he => by
    obtain ⟨ad, n, c, hv⟩ := someSl_spec hs he.1
    have hy : a.eval y = .slice none 0 0 := he.2.1
    refine ⟨.bool true, ?_, rfl⟩
    have hb : (binOp .neq t (.slice (some ad) n c) (.slice none 0 0)).run P w = .ok (.bool true) w := neq_of (r := false) fun n => eqIn_slice ht rfl
    have hg : (eqGuard .neq t x y (.slice (some ad) n c) (.slice none 0 0)).run P w = .ok () w := eqGuard_plain (.inl fun _ => by simp) (.inl (by simp))
    simp only [execOp, hv, hy, Sem.run_bind, hg, Result.andThen_ok, hb]
    rfl

theorem r_eqNilP {d : Nat} {x y : Operand} {av : AV} {t e yt ty : TypeId} {pos : String} {af : Array Edge} {gd : Option (Nat × Bool)} (ht : P.underlying t = some (.pointer e)) (hp : isPtr av = true) (hN : d < bs.N) (hc : cOk [(x, av), (y, dv (.pointer none))]) : ORule P bs ⟨some d, .binOp .eql t x y yt, ty, pos, af, gd⟩ ⟨rtOf [(x, av), (y, dv (.pointer none))], [], [(d, dv (.bool false))], []⟩ :=
  .val rfl hN hc fun B S U s' a w g _ he => by
    obtain ⟨ad, hv⟩ := isPtr_spec hp he.1
    have hy : a.eval y = .pointer none := he.2.1
    refine ⟨.bool false, ?_, rfl⟩
    have hb : (binOp .eql t (.pointer (some ad)) (.pointer none)).run P w = .ok (.bool false) w := eql_of (r := false) fun n => eqIn_ptr ht rfl
    have hg : (eqGuard .eql t x y (.pointer (some ad)) (.pointer none)).run P w = .ok () w := eqGuard_plain (.inl fun _ => by simp) (.inl (by simp))
    simp only [execOp, hv, hy, Sem.run_bind, hg, Result.andThen_ok, hb]
    rfl
theorem r_neNilP {d : Nat} {x y : Operand} {av : AV} {t e yt ty : TypeId} {pos : String} {af : Array Edge} {gd : Option (Nat × Bool)} (ht : P.underlying t = some (.pointer e)) (hp : isPtr av = true) (hN : d < bs.N) (hc : cOk [(x, av), (y, dv (.pointer none))]) : ORule P bs ⟨some d, .binOp .neq t x y yt, ty, pos, af, gd⟩ ⟨rtOf [(x, av), (y, dv (.pointer none))], [], [(d, dv (.bool true))], []⟩ :=
  .val rfl hN hc fun B S U s' a w g _ he => by
    obtain ⟨ad, hv⟩ := isPtr_spec hp he.1
    have hy : a.eval y = .pointer none := he.2.1
    refine ⟨.bool true, ?_, rfl⟩
    have hb : (binOp .neq t (.pointer (some ad)) (.pointer none)).run P w = .ok (.bool true) w := neq_of (r := false) fun n => eqIn_ptr ht rfl
    have hg : (eqGuard .neq t x y (.pointer (some ad)) (.pointer none)).run P w = .ok () w := eqGuard_plain (.inl fun _ => by simp) (.inl (by simp))
    simp only [execOp, hv, hy, Sem.run_bind, hg, Result.andThen_ok, hb]
    rfl

/-! ### Turns of the state between operations -/

theorem T.turn {s s' : St} {c : Code} {Q : Exit → Act → World → Prop} (h : ∀ a w, Gs bs s a w → Gs bs s' a w) (ht : T P bs s' c Q) : T P bs s c Q := fun a w hG => ht a w (h a w hG)

/-- A slice of unknown making is nil or is not. -/
theorem T.nilOr {t : List AV} {h : List HS} {k : Nat} {tag : Bool} {sz n : Nat} {el : Nat → Nat → DV} {c : Code} {Q : Exit → Act → World → Prop} (hk : tget t k = sv (.d (.sl tag false sz n el)))
    (h1 : n = 0 → T P bs ⟨tset t k (dv (.slice none 0 0)), h⟩ c Q) (h2 : T P bs ⟨tset t k (sv (.d (.sl tag true sz n el))), h⟩ c Q) : T P bs ⟨t, h⟩ c Q := by
  intro a w hG
  obtain ⟨B, S, U, g⟩ := hG
  have hv := g.tm k
  rw [show tget (⟨t, h⟩ : St).t k = sv (.d (.sl tag false sz n el)) from hk] at hv
  obtain ⟨ao, cap, hv, e1, e2, _, e4⟩ := hv
  have put : ∀ av, avOk B S U w av (a.tmps.getD k undef) → G bs B S U ⟨tset t k av, h⟩ a w := by
    intro av hav
    refine { g with tm := fun j => ?_ }
    show avOk B S U w (tget (tset t k av) j) (a.tmps.getD j undef)
    rw [tget_tset]
    split
    · rename_i e; subst e; exact hav
    · exact g.tm j
  cases ao with
  | none =>
    have hc0 : cap = 0 := e2 rfl
    have hn0 : n = 0 := by omega
    refine h1 hn0 a w ⟨B, S, U, put _ ?_⟩
    rw [hv, hn0, hc0]
    exact (rfl : Value.slice none 0 0 = _)
  | some ad =>
    refine h2 a w ⟨B, S, U, put _ ?_⟩
    exact ⟨some ad, cap, hv, e1, e2, fun _ => by simp, e4⟩

/-- What an object's slice is once its object is shared. -/
def frS (l sz n : Nat) (el : Nat → Nat → DV) (x y : SV) : Prop := x = y ∨
  match x, y with
  | .own l' sz0 off m, .d (.sl tag nn sz' m' el') => l' = l ∧ sz0 = sz ∧ tag = false ∧ (nn = true → 0 < m) ∧ sz' = sz ∧ m' = m ∧ off + m ≤ n ∧ ∀ i j, i < m → el' i j = el (off + i) j
  | _, _ => False
def frT (l sz n : Nat) (el : Nat → Nat → DV) : TV → TV → Prop
  | .one x, .one y => frS l sz n el x y
  | .agg a, .agg b => all2 (frS l sz n el) a b
  | _, _ => False
def frA (l sz n : Nat) (el : Nat → Nat → DV) (x y : AV) : Prop := x = y ∨
  match x, y with
  | .tv a, .tv b => frT l sz n el a b
  | .tup a, .tup b => all2 (frT l sz n el) a b
  | _, _ => False
def frO (l sz n : Nat) (el : Nat → Nat → DV) (x y : HS) : Prop := x = y ∨
  match x, y with
  | .live (.box T a), .live (.box T' b) => T' = T ∧ all2 (frS l sz n el) a b
  | _, _ => False
def frH (l sz n : Nat) (el : Nat → Nat → DV) : Nat → List HS → List HS → Prop
  | _, [], [] => True
  | i, x :: r, y :: r' => (i = l ∧ y = .dead ∨ i ≠ l ∧ frO l sz n el x y) ∧ frH l sz n el (i + 1) r r'
  | _, _, _ => False

theorem all2_trans {α β γ : Type} {R : α → β → Prop} {R1 : α → γ → Prop} {R2 : β → γ → Prop} (h : ∀ a b c, R a b → R1 a c → R2 b c) : ∀ {l : List α} {k : List β} {m : List γ}, all2 R l k → all2 R1 l m → all2 R2 k m
  | [], [], [], _, _ => trivial
  | _ :: _, _ :: _, _ :: _, h1, h2 => ⟨h _ _ _ h1.1 h2.1, all2_trans h h1.2 h2.2⟩
  | [], _ :: _, _, h1, _ => h1.elim
  | _ :: _, [], _, h1, _ => h1.elim
  | [], [], _ :: _, _, h2 => h2.elim
  | _ :: _, _ :: _, [], _, h2 => h2.elim


theorem tget_all2 {R : AV → AV → Prop} (h0 : R .any .any) : ∀ {l k : List AV}, all2 R l k → ∀ i, R (tget l i) (tget k i)
  | [], [], _, _ => h0
  | _ :: _, _ :: _, h, 0 => h.1
  | _ :: _, _ :: _, h, i + 1 => tget_all2 h0 h.2 i
  | [], _ :: _, h, _ => h.elim
  | _ :: _, [], h, _ => h.elim

theorem frH_get {l sz n : Nat} {el : Nat → Nat → DV} : ∀ {a b : List HS} {i : Nat}, frH l sz n el i a b → ∀ k, (i + k = l ∧ k < b.length → hget b k = .dead) ∧ (i + k ≠ l → frO l sz n el (hget a k) (hget b k))
  | [], [], _, _, k => ⟨fun h => absurd h.2 (Nat.not_lt_zero _), fun _ => .inl rfl⟩
  | x :: a, y :: b, i, h, 0 => ⟨fun e => by rcases h.1 with h | h; exact h.2; exact absurd e.1 h.1, fun e => by rcases h.1 with h | h; exact absurd h.1 e; exact h.2⟩
  | x :: a, y :: b, i, h, k + 1 => by
    have := frH_get h.2 k
    rw [show i + (k + 1) = i + 1 + k from by omega]
    exact ⟨fun e => this.1 ⟨e.1, by simpa using e.2⟩, this.2⟩
  | [], _ :: _, _, h, _ => h.elim
  | _ :: _, [], _, h, _ => h.elim
theorem frH_len {l sz n : Nat} {el : Nat → Nat → DV} : ∀ {a b : List HS} {i : Nat}, frH l sz n el i a b → a.length = b.length
  | [], [], _, _ => rfl
  | _ :: a, _ :: b, i, h => by simp only [List.length_cons]; rw [frH_len h.2]
  | [], _ :: _, _, h => h.elim
  | _ :: _, [], _, h => h.elim

theorem all2_fr {α β : Type} {F : α → α → Prop} {R R' : α → β → Prop} (h : ∀ x y v, F x y → R x v → R' y v) : ∀ {a b : List α} {c : List β}, all2 F a b → all2 R a c → all2 R' b c
  | [], [], [], _, _ => trivial
  | _ :: _, _ :: _, _ :: _, h1, h2 => ⟨h _ _ _ h1.1 h2.1, all2_fr h h1.2 h2.2⟩
  | [], _ :: _, _, h1, _ => h1.elim
  | _ :: _, [], _, h1, _ => h1.elim
  | [], [], _ :: _, _, h2 => h2.elim
  | _ :: _, _ :: _, [], _, h2 => h2.elim

/-- An object's slice is shared from now on. -/
theorem Gs.freeze {s s' : St} {a : Act} {w : World} (l : Nat) {Ty sz n : Nat} {el : Nat → Nat → DV} (hl : hget s.h l = .live (.arr Ty sz n el)) (ht : all2 (frA l sz n el) s.t s'.t) (hh : frH l sz n el 0 s.h s'.h) (hG : Gs bs s a w) : Gs bs s' a w := by
  obtain ⟨B, S, U, g⟩ := hG
  have hob := g.ob l _ hl
  let F : Nat → Prop := fun b => ∃ κ, B l = some (some (b, κ))
  have hsv : ∀ x y v, frS l sz n el x y → svOk B S U w x v → svOk B (fun b => S b ∨ F b) (fun b => U b ∨ F b) w y v := by
    intro x y v h hv
    have mono := svOk_mono (B := B) (B' := B) (S := S) (S' := fun b => S b ∨ F b) (U := U) (U' := fun b => U b ∨ F b) (w := w) (w' := w) (fun _ _ h => h) (fun _ h => .inl h) (fun _ h => .inl h) (Pres.refl _ _)
    rcases h with rfl | h
    · exact mono _ _ hv
    · match x, y, h with
      | .own l' sz0 off m, .d (.sl tag nn sz' m' el'), ⟨h1, h2, h3, h4, h5, h6, h7, h8⟩ =>
        subst h1
        subst h2
        subst h3
        subst h5
        subst h6
        rcases hv with ⟨_, _, hn0, hv⟩ | ⟨b, κ, o, cap, hb, hv, hcap, hle, ho⟩
        · subst hn0
          exact ⟨none, 0, hv, Nat.le_refl _, fun _ => rfl, fun h => absurd (h4 h) (Nat.lt_irrefl 0), fun i hi => absurd hi (Nat.not_lt_zero _)⟩
        · refine ⟨some ⟨b, o, none⟩, cap, hv, hle, by simp, by simp, fun i hi => ⟨⟨b, o, none⟩, rfl, rfl, .inr ⟨κ, hb⟩, fun j hj => ?_⟩⟩
          rcases hob with ⟨hob, _⟩ | ⟨b', κ', cur, hb', hcur, hsz, hnk, hkm', hel⟩
          · rw [hb] at hob; cases hob
          · rw [hb] at hb'
            cases hb'
            obtain ⟨u, hu, hd⟩ := hel (off + i) (by omega) j hj
            refine ⟨u, cell_of_block hcur ?_, ?_⟩
            · rw [ho (.inl (by omega)), ← Nat.add_assoc, ← Nat.add_mul]
              exact hu
            · rw [h8 i j hi]
              exact dOk_mono (fun _ h => .inl h) (fun _ h => .inl h) (Pres.refl _ _) _ _ hd
  have htv : ∀ x y v, frT l sz n el x y → tvOk B S U w x v → tvOk B (fun b => S b ∨ F b) (fun b => U b ∨ F b) w y v := by
    intro x y v h hv
    match x, y, h with
    | .one x, .one y, h => exact hsv x y v h hv
    | .agg x, .agg y, h =>
      obtain ⟨cs, h1, h2⟩ := hv
      exact ⟨cs, h1, all2_fr hsv h h2⟩
  have hav : ∀ x y v, frA l sz n el x y → avOk B S U w x v → avOk B (fun b => S b ∨ F b) (fun b => U b ∨ F b) w y v := by
    intro x y v h hv
    rcases h with rfl | h
    · exact avOk_mono (fun _ _ h => h) (fun _ h => .inl h) (fun _ h => .inl h) (Pres.refl _ _) _ _ hv
    · match x, y, h with
      | .tv x, .tv y, h => exact htv x y v h hv
      | .tup x, .tup y, h =>
        obtain ⟨cs, h1, h2⟩ := hv
        exact ⟨cs, h1, all2_fr htv h h2⟩
  have hFlive : ∀ b, F b → (bs.C b ∨ bs.w0.heap.size ≤ b) ∧ b < w.heap.size := fun b ⟨κ, hb⟩ => ⟨g.cf l _ (b, κ) hl hb, obOk_lt hob hb⟩
  have hlen := frH_len hh
  have hlt : l < s.h.length := hget_lt hl
  have hdead : hget s'.h l = .dead := ((frH_get hh l).1 ⟨by omega, by omega⟩)
  have hfo : ∀ k, k ≠ l → frO l sz n el (hget s.h k) (hget s'.h k) := fun k hk => (frH_get hh k).2 (by omega)
  have hlv : ∀ k o', hget s'.h k = .live o' → k ≠ l ∧ ∃ o, hget s.h k = .live o ∧ (obOk B S U w k o → obOk B (fun b => S b ∨ F b) (fun b => U b ∨ F b) w k o') := by
    intro k o' ho'
    have hk : k ≠ l := fun e => by rw [e, hdead] at ho'; cases ho'
    refine ⟨hk, ?_⟩
    rcases hfo k hk with h | h
    · exact ⟨o', by rw [h]; exact ho', obOk_mono (fun _ _ h => h) (fun _ h => .inl h) (fun _ h => .inl h) (Pres.refl _ _) fun _ _ => rfl⟩
    · rw [ho'] at h
      match hs : hget s.h k, o', h with
      | .live (.box T x), .box T' y, h =>
        obtain ⟨rfl, h⟩ := h
        exact ⟨_, rfl, fun ⟨b, κ, cur, h1, h2, h3⟩ => ⟨b, κ, cur, h1, h2, all2_fr hsv h h3⟩⟩
  refine ⟨B, fun b => S b ∨ F b, fun b => U b ∨ F b, { df := g.df, sz := g.sz, tm := fun k => hav _ _ _ (tget_all2 (.inl rfl) ht k) (g.tm k), ob := fun k o' e => ?_, nj := fun k k' o o' e e' hne p p' hp hp' => ?_, sp := fun k o' p e hp => ?_, cf := fun k o' p e hp => ?_, fr := fun k e => ?_, su := fun b h => h.imp (g.su b) id, ub := fun b h => h.elim (g.ub b) fun h => (hFlive b h).2, s0 := fun b h => .inl (g.s0 b h), u0 := fun b h => .inl (g.u0 b h), sn := fun b h => h.elim (g.sn b) fun h => .inr (hFlive b h).1, un := fun b h => h.elim (g.un b) fun h => .inr (hFlive b h).1, ps := g.ps, hs := g.hs, os := g.os, tp := g.tp, op := g.op, bl := g.bl, bk := g.bk }⟩
  · obtain ⟨hk, o, ho, f⟩ := hlv k o' e
    exact f (g.ob k o ho)
  · obtain ⟨_, o1, ho1, _⟩ := hlv k o e
    obtain ⟨_, o2, ho2, _⟩ := hlv k' o' e'
    exact g.nj k k' o1 o2 ho1 ho2 hne p p' hp hp'
  · obtain ⟨hk, o, ho, _⟩ := hlv k o' e
    rintro (h | ⟨κ, h⟩)
    · exact g.sp k o p ho hp h
    · exact g.nj k l o _ ho hl hk p (p.1, κ) hp h rfl
  · obtain ⟨hk, o, ho, _⟩ := hlv k o' e
    exact g.cf k o p ho hp
  · have hk : k ≠ l := fun h => by rw [h, hdead] at e; cases e
    rcases hfo k hk with h | h
    · exact g.fr k (by rw [h]; exact e)
    · rw [e] at h
      match hs : hget s.h k, h with
      | .live (.box _ _), h => exact h.elim
end Go.Proofs.Ytacikihlgpnjhaa.Q
